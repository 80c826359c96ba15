/- A part of the proof that the law answers true for every input; the conditions are those of the card: the listed variable reads as the program lays it. -/
import Derived.RangeFuncLeaves
import Derived.RangeFuncCalls
import Derived.Scope
import Derived.Orders
set_option linter.unusedSimpArgs false
set_option linter.unusedVariables false
/- The abstract machine: data,values,store,instructions and a big-step evaluator for compiled Go code,over plain Lean data. -/
namespace Go.Vm
open Go
inductive D where
  | int (k : IntKind) (n : Int)
  | bool (b : Bool)
  | str (s : ByteArray)
  | nil
  | nilp
  | nilf
  | nilm
  | sl (sz : Nat) (es : List (List D))
  | agg (cs : List D)
  | ptr (cs : List D)
  | fn (f : FuncId) (first caps : List D)
  | tup (ds : List D)
  deriving Inhabited
inductive AV where
  | imm (d : D)
  | agg (cs : List AV)
  | tup (vs : List AV)
  | ref (id sz lo n : Nat)
  | ptr (id off : Nat)
  | clo (f : FuncId) (first caps : List AV)
  | yield
  | map (id : Nat)
  | e0 (sz : Nat)
  | junk
  deriving Inhabited
inductive AO where
  | dead
  | box (cs : List AV)
  | fbox (cs : List D)
  | arr (sz : Nat) (es : List (List D))
  | farr (sz : Nat) (es : List (List D))
  | imap (es : List (Int × D))
  | iter (s : ByteArray) (pos : Nat)
  deriving Inhabited
inductive Opnd where
  | var (i : Nat)
  | loc (i : Nat)
  | k (d : D)
  deriving Inhabited
inductive ETy where
  | int
  | bool
  | nilsl
  | agg (fs : List (Nat × ETy))
  deriving Inhabited
inductive Mode where
  | pure | imp | fz | sh
  deriving Inhabited,DecidableEq
inductive LK where
  | str | sl | mp
  deriving Inhabited
inductive IOp where
  | mv (x : Opnd)
  | pick (c a b : Opnd)
  | alloc (z : List D)
  | box (x : Opnd)
  | boxi (x : Opnd)
  | build (z : List D) (ps : List (Nat × Nat × Opnd))
  | bslice (own : Bool) (sz : Nat) (z : List D) (n : Nat) (ps : List (Nat × Opnd))
  | load (agg : Bool) (n : Nat) (a : Opnd)
  | store (n : Nat) (a x : Opnd)
  | nilck (x : Opnd)
  | bin (op : BinOp) (x y : Opnd)
  | eqs (neg : Bool) (t : ETy) (x y : Opnd)
  | un (op : UnOp) (x : Opnd)
  | conv (k : IntKind) (x : Opnd)
  | same (x : Opnd)
  | mkfn (f : FuncId) (first caps : List Opnd)
  | mkmap
  | lookup (z : D) (m k : Opnd)
  | mapup (m k v : Opnd)
  | mkslice (sz bytes : Nat) (z : List D) (l c : Opnd)
  | slice (arr : Option Nat) (sz : Nat) (x : Opnd) (lo hi mx : Option Opnd)
  | faddr (off : Nat) (x : Opnd)
  | field (agg : Bool) (off n : Nat) (x : Opnd)
  | iaddr (arr : Option Nat) (sz : Nat) (x i : Opnd)
  | index (len sz : Nat) (agg : Bool) (x i : Opnd)
  | extract (x : Opnd) (i : Nat)
  | call (m : Mode) (f : Opnd) (args : List Opnd)
  | len (k : LK) (x : Opnd)
  | append (sz bytes : Nat) (s x : Opnd)
  | mnmx (isMin : Bool) (x y : Opnd)
  | copy (sz : Nat) (d s : Opnd)
  | clear (z : List D) (x : Opnd)
  | range (x : Opnd)
  | next (x : Opnd)
  deriving Inhabited
structure ROp where
  w : Option Nat
  g : Option (Nat × Bool)
  op : IOp
  deriving Inhabited
inductive IR where
  | skip
  | region (ops : List ROp) (draw : Option (Nat × List Nat))
  | seq (a b : IR)
  | cond (c : Opnd) (a b : IR)
  | block (id : Nat) (b : IR)
  | loop (keep out : List Nat) (b : IR)
  | rfunc (f : Opnd) (ps : List Nat) (asg body : IR)
  | exit (id : Nat)
  | scope (b : IR)
  | ret
  deriving Inhabited
inductive RV where
  | v (i : Nat)
  | cell (i : Nat) (agg : Bool) (n : Nat)
  deriving Inhabited
structure IFn where
  np : Nat
  nv : Nat
  slots : List Nat
  res : List RV
  body : IR
  deriving Inhabited
inductive AExit where
  | normal
  | exit (id : Nat)
  | ret
  deriving Inhabited,DecidableEq
structure Ext where
  ps : List Nat
  asg : IR
  body : IR
  vars : List AV
  st : List AO
  nb : Nat
  pend : Option AExit
  deriving Inhabited
structure S where
  vars : List AV
  st : List AO
  ext : Option Ext
  deriving Inhabited
structure Lower where
  call : FuncId → List AV → List AO → Option Ext → Option (AV × List AO × Option Ext)
  round : Ext → List D → Option (Ext × Bool)
def dsOf : List AV → Option (List D)
  | [] => some []
  | .imm d :: r => match dsOf r with | some ds => some (d :: ds) | none => none
  | _ :: _ => none
def mkAgg (vs : List AV) : AV:=match dsOf vs with | some ds => .imm (.agg ds) | none => .agg vs
def mkTup (vs : List AV) : AV:=match dsOf vs with | some ds => .imm (.tup ds) | none => .tup vs
def mkFn (f : FuncId) (a b : List AV) : AV :=
  match dsOf a,dsOf b with | some a,some b => .imm (.fn f a b) | _,_ => .clo f a b
def cellsOf : AV → List AV
  | .imm (.agg cs) => cs.map .imm
  | .agg cs => cs
  | v => [v]
def aggOf : AV → Option (List AV)
  | .imm (.agg cs) => some (cs.map .imm)
  | .agg cs => some cs
  | _ => none
def single : AV → Bool
  | .imm (.agg _) | .agg _ | .imm (.tup _) | .tup _ | .junk => false
  | _ => true
def rdBox (st : List AO) (id : Nat) : Option (List AV) :=
  match st[id]? with
  | some (.box cs) => some cs
  | some (.fbox ds) => some (ds.map .imm)
  | _ => none
def rdArr (st : List AO) (id : Nat) : Option (Nat × List (List D)) :=
  match st[id]? with
  | some (.arr sz es) => some (sz,es)
  | some (.farr sz es) => some (sz,es)
  | _ => none
def chunks (sz : Nat) : Nat → List D → List (List D)
  | 0,_ => []
  | n + 1,l => l.take sz :: chunks sz n (l.drop sz)
mutual
def deep (st : List AO) : AV → Option D
  | .imm d => some d
  | .agg cs => match deepL st cs with | some ds => some (.agg ds) | none => none
  | .tup cs => match deepL st cs with | some ds => some (.tup ds) | none => none
  | .ref id sz lo n => match st[id]? with
    | some (.arr sz' es) => if sz' = sz ∧ lo + n ≤ es.length then some (.sl sz ((es.drop lo).take n)) else none
    | some (.farr sz' es) => if sz' = sz ∧ lo + n ≤ es.length then some (.sl sz ((es.drop lo).take n)) else none
    | some (.box cs) => match dsOf cs with | some ds => if (lo + n) * sz ≤ ds.length then some (.sl sz (chunks sz n (ds.drop (lo * sz)))) else none | none => none
    | _ => none
  | .ptr id off => match rdBox st id with
    | some cs => match dsOf (cs.drop off) with | some ds => some (.ptr ds) | none => none
    | none => none
  | .clo f a b => match deepL st a,deepL st b with | some a,some b => some (.fn f a b) | _,_ => none
  | .e0 sz => some (.sl sz [])
  | _ => none
def deepL (st : List AO) : List AV → Option (List D)
  | [] => some []
  | v :: r => match deep st v,deepL st r with | some d,some ds => some (d :: ds) | _,_ => none
end
mutual
def ids : AV → List Nat
  | .agg cs => idsL cs
  | .tup cs => idsL cs
  | .ref id _ _ _ => [id]
  | .ptr id _ => [id]
  | .map id => [id]
  | .clo _ a b => idsL a ++ idsL b
  | _ => []
def idsL : List AV → List Nat
  | [] => []
  | v :: r => ids v ++ idsL r
end
def aoIds : AO → List Nat
  | .box cs => idsL cs
  | _ => []
mutual
def ren (m : Nat → Option Nat) : AV → AV
  | .agg cs => .agg (renL m cs)
  | .tup cs => .tup (renL m cs)
  | .ref id sz lo n => match m id with | some j => .ref j sz lo n | none => .junk
  | .ptr id off => match m id with | some j => .ptr j off | none => .junk
  | .map id => match m id with | some j => .map j | none => .junk
  | .clo f a b => .clo f (renL m a) (renL m b)
  | v => v
def renL (m : Nat → Option Nat) : List AV → List AV
  | [] => []
  | v :: r => ren m v :: renL m r
end
def renO (m : Nat → Option Nat) : AO → AO
  | .box cs => .box (renL m cs)
  | o => o
def reach (st : List AO) : Nat → List Nat → List Nat → List Nat
  | 0,acc,_ => acc
  | _ + 1,acc,[] => acc
  | n + 1,acc,i :: todo => if acc.contains i then reach st n acc todo else reach st n (acc ++ [i]) (todo ++ aoIds (st.getD i .dead))
def keepIds (nb : Nat) (roots : List Nat) (st : List AO) : List Nat :=
  reach st 1000 (List.range nb) ((List.range nb).flatMap (fun i => aoIds (st.getD i .dead)) ++ roots)
def idx (l : List Nat) (i : Nat) : Option Nat:=l.idxOf? i
def pickSt (m : Nat → Option Nat) (l : List Nat) (st : List AO) : List AO:=l.map fun i => renO m (st.getD i .dead)
def gc (nb : Nat) (vs : List AV) (st : List AO) : List AV × List AO :=
  let l:=keepIds nb (idsL vs) st
  (renL (idx l) vs,pickSt (idx l) l st)
mutual
def flatD : D → Bool
  | .int _ _ | .bool _ | .str _ | .nil | .nilp | .nilf | .nilm => true
  | .agg cs => flatDL cs
  | .tup cs => flatDL cs
  | _ => false
def flatDL : List D → Bool
  | [] => true
  | d :: r => flatD d && flatDL r
end
def flatDLL : List (List D) → Bool
  | [] => true
  | l :: r => flatDL l && flatDLL r
mutual
def flatV : AV → Bool
  | .imm d => flatD d
  | .agg cs => flatVL cs
  | .tup cs => flatVL cs
  | .ref _ _ _ _ | .ptr _ _ | .e0 _ => true
  | _ => false
def flatVL : List AV → Bool
  | [] => true
  | v :: r => flatV v && flatVL r
end
def flatO : AO → Bool
  | .dead => true
  | .box cs => flatVL cs
  | .arr _ es => flatDLL es
  | _ => false
def flatOL : List AO → Bool
  | [] => true
  | o :: r => flatO o && flatOL r
def frozenO : AO → Option AO
  | .box cs => (dsOf cs).map .fbox
  | .arr sz es => some (.farr sz es)
  | .fbox cs => some (.fbox cs)
  | .farr sz es => some (.farr sz es)
  | _ => none
def isFrz (st : List AO) : List Nat → Bool
  | [] => true
  | i :: r => (match st[i]? with | some (.fbox _) | some (.farr _ _) => true | _ => false) && isFrz st r
def freeze (st : List AO) : List Nat → Option (List AO)
  | [] => some st
  | i :: r => match freeze st r with
    | some st => match frozenO (st.getD i .dead) with
      | some o => some (st.set i o)
      | none => none
    | none => none
def wrp (k : IntKind) (n : Int) : Int :=
  match k with
  | .i64 => if -9223372036854775808 ≤ n ∧ n ≤ 9223372036854775807 then n else IntKind.i64.wrap n
  | k => k.wrap n
def binI (op : BinOp) (k : IntKind) (a b : Int) : Option D :=
  match op with
  | .add => some (.int k (wrp k (a + b)))
  | .sub => some (.int k (wrp k (a - b)))
  | .mul => some (.int k (wrp k (a * b)))
  | .quo => if b = 0 then none else some (.int k (wrp k (a.tdiv b)))
  | .rem => if b = 0 then none else some (.int k (a.tmod b))
  | .and => some (.int k (wrp k (BitVec.ofInt k.bits a &&& BitVec.ofInt k.bits b).toNat))
  | .or => some (.int k (wrp k (BitVec.ofInt k.bits a ||| BitVec.ofInt k.bits b).toNat))
  | .xor => some (.int k (wrp k (BitVec.ofInt k.bits a ^^^ BitVec.ofInt k.bits b).toNat))
  | .andNot => some (.int k (wrp k (BitVec.ofInt k.bits a &&& ~~~BitVec.ofInt k.bits b).toNat))
  | .eql => some (.bool (a == b))
  | .neq => some (.bool (a != b))
  | .lss => some (.bool (decide (a < b)))
  | .leq => some (.bool (decide (a ≤ b)))
  | .gtr => some (.bool (decide (a > b)))
  | .geq => some (.bool (decide (a ≥ b)))
  | _ => none
def shiftI (op : BinOp) (k : IntKind) (a b : Int) : Option D :=
  if b < 0 then none else
  match op with
  | .shl => some (.int k (wrp k (a * 2 ^ (min b.toNat k.bits))))
  | .shr => some (.int k (a.fdiv (2 ^ (min b.toNat k.bits))))
  | _ => none
def aBin (op : BinOp) (x y : AV) : Option AV :=
  match x,y with
  | .imm (.int k a),.imm (.int k' b) =>
    match op with
    | .shl => (shiftI .shl k a b).map .imm
    | .shr => (shiftI .shr k a b).map .imm
    | op => if k = k' then (binI op k a b).map .imm else none
  | _,_ => none
def intEq : D → D → Option Bool
  | .int k a,.int k' b => if k = k' then some (a == b) else none
  | _,_ => none
def boolEq : D → D → Option Bool
  | .bool a,.bool b => some (a == b)
  | _,_ => none
def isNilSl : AV → Option Bool
  | .imm .nil => some true
  | .imm (.sl _ _) => some false
  | .ref _ _ _ _ => some false
  | .e0 _ => some false
  | _ => none
mutual
def eqE : ETy → List D → Nat → List D → Nat → Option Bool
  | .int,xs,i,ys,j => match xs[i]?,ys[j]? with | some x,some y => intEq x y | _,_ => none
  | .bool,xs,i,ys,j => match xs[i]?,ys[j]? with | some x,some y => boolEq x y | _,_ => none
  | .nilsl,_,_,_,_ => none
  | .agg fs,xs,i,ys,j => eqL fs xs i ys j
def eqL : List (Nat × ETy) → List D → Nat → List D → Nat → Option Bool
  | [],_,_,_,_ => some true
  | (o,t) :: r,xs,i,ys,j => match eqE t xs (i + o) ys (j + o) with
    | some true => eqL r xs i ys j
    | some false => some false
    | none => none
end
def aEq (t : ETy) (x y : AV) : Option Bool :=
  match t with
  | .int => match x,y with | .imm a,.imm b => intEq a b | _,_ => none
  | .bool => match x,y with | .imm a,.imm b => boolEq a b | _,_ => none
  | .nilsl => match x,y with
    | .imm .nil,y => isNilSl y
    | x,.imm .nil => isNilSl x
    | _,_ => none
  | .agg fs => match x,y with | .imm (.agg xs),.imm (.agg ys) => eqL fs xs 0 ys 0 | _,_ => none
def aUn (op : UnOp) (x : AV) : Option AV :=
  match op,x with
  | .neg,.imm (.int k n) => some (.imm (.int k (wrp k (0 - n))))
  | .not,.imm (.bool b) => some (.imm (.bool (!b)))
  | _,_ => none
def opnd (vars env : List AV) : Opnd → AV
  | .var i => vars.getD i .junk
  | .loc i => env.getD i .junk
  | .k d => .imm d
def fillA : List AV → List (Nat × Nat × AV) → Option (List AV)
  | z,[] => some z
  | z,(off,n,v) :: r =>
    let cs:=cellsOf v
    if cs.length = n ∧ off + n ≤ z.length ∧ cs.all single = true then fillA (z.take off ++ cs ++ z.drop (off + n)) r else none
def getI : AV → Option Int
  | .imm (.int _ n) => some n
  | _ => none
def aLoad (st : List AO) (agg : Bool) (n : Nat) (a : AV) : Option AV :=
  match a with
  | .imm (.ptr cs) => if n ≤ cs.length then (if agg then some (.imm (.agg (cs.take n))) else (if n = 1 then (cs[0]?).map .imm else none)) else none
  | .ptr id off => match rdBox st id with
    | some cs => if off + n ≤ cs.length then (if agg then some (mkAgg ((cs.drop off).take n)) else (if n = 1 then cs[off]? else none)) else none
    | none => match rdArr st id with
      | some (sz,es) => match es[off / sz]? with
        | some e => if off % sz + n ≤ e.length then (if agg then some (.imm (.agg ((e.drop (off % sz)).take n))) else (if n = 1 then (e[off % sz]?).map .imm else none)) else none
        | none => none
      | none => none
  | _ => none
def setRange {α : Type} (l : List α) (off : Nat) (vs : List α) : List α:=l.take off ++ vs ++ l.drop (off + vs.length)
def aStore (st : List AO) (n : Nat) (a x : AV) : Option (List AO) :=
  let vs:=cellsOf x
  if vs.length ≠ n ∨ vs.all single = false then none else
  match a with
  | .ptr id off => match st[id]? with
    | some (.box cs) => if off + n ≤ cs.length then some (st.set id (.box (setRange cs off vs))) else none
    | some (.arr sz es) => match es[off / sz]?,dsOf vs with
      | some e,some ds => if off % sz + n ≤ e.length then some (st.set id (.arr sz (es.set (off / sz) (setRange e (off % sz) ds)))) else none
      | _,_ => none
    | _ => none
  | _ => none
def aLen : LK → AV → List AO → Option Nat
  | .sl,.imm .nil,_ => some 0
  | .sl,.imm (.sl _ es),_ => some es.length
  | .str,.imm (.str s),_ => some s.size
  | .sl,.ref _ _ _ n,_ => some n
  | .sl,.e0 _,_ => some 0
  | .mp,.map id,st => match st[id]? with | some (.imap es) => some es.length | _ => none
  | _,_,_ => none
def spare (st : List AO) (id sz a h : Nat) : Bool :=
  match st[id]? with
  | some (.arr sz' es) => decide (sz' = sz ∧ 0 < sz ∧ a + h ≤ es.length)
  | _ => false
def aSlice (st : List AO) (arr : Option Nat) (sz : Nat) (x : AV) (lo hi mx : Option Nat) : Option AV :=
  match arr with
  | some n => match mx with
    | some _ => none
    | none =>
      let h:=hi.getD n
      let l:=lo.getD 0
      if l ≤ h ∧ h ≤ n then
        match x with
        | .ptr id off => match rdBox st id with
          | some cs => if off % sz = 0 ∧ off + n * sz = cs.length then some (.ref id sz (off / sz + l) (h - l)) else none
          | none => none
        | .imm (.ptr cs) => if h * sz ≤ cs.length then some (.imm (.sl sz (chunks sz (h - l) (cs.drop (l * sz))))) else none
        | _ => none
      else none
  | none => match x with
    | .imm .nil => match mx with
      | some m => if m = 0 ∧ hi = some 0 ∧ (lo.getD 0) = 0 then some (.imm .nil) else none
      | none => if (lo.getD 0) = 0 ∧ (hi.getD 0) = 0 then some (.imm .nil) else none
    | .imm (.sl sz' es) => match mx with
      | some m => if m = 0 ∧ hi = some 0 ∧ (lo.getD 0) = 0 then some (.e0 sz) else none
      | none =>
        let h:=hi.getD es.length
        let l:=lo.getD 0
        if sz' = sz ∧ l ≤ h ∧ h ≤ es.length then some (.imm (.sl sz ((es.drop l).take (h - l)))) else none
    | .ref id sz' a n => match mx with
      | some m => if m = 0 ∧ hi = some 0 ∧ (lo.getD 0) = 0 then some (.e0 sz) else if hi.isSome = true ∧ lo.getD 0 ≤ hi.getD n ∧ hi.getD n ≤ m ∧ m ≤ n then some .junk else none
      | none =>
        let h:=hi.getD n
        let l:=lo.getD 0
        if sz' = sz ∧ l ≤ h ∧ (h ≤ n ∨ spare st id sz a h = true) then some (.ref id sz (a + l) (h - l)) else none
    | .e0 _ => match mx with
      | some m => if m = 0 ∧ hi = some 0 ∧ (lo.getD 0) = 0 then some (.e0 sz) else none
      | none => if (lo.getD 0) = 0 ∧ (hi.getD 0) = 0 then some (.e0 sz) else none
    | _ => none
def aIaddr (arr : Option Nat) (sz : Nat) (x : AV) (i : Int) : Option AV :=
  match arr with
  | some len => if 0 ≤ i ∧ i < len then
      match x with
      | .ptr id off => some (.ptr id (off + i.toNat * sz))
      | .imm (.ptr cs) => some (.imm (.ptr (cs.drop (i.toNat * sz))))
      | _ => none
    else none
  | none => match x with
    | .imm (.sl sz' es) => if 0 ≤ i ∧ sz' = sz then (es[i.toNat]?).map fun e => .imm (.ptr e) else none
    | .ref id sz' lo n => if 0 ≤ i ∧ i < n ∧ sz' = sz then some (.ptr id ((lo + i.toNat) * sz)) else none
    | _ => none
def srcOf (st : List AO) (x : AV) : Option (Nat × List (List D)) :=
  match x with
  | .imm .nil => some (0,[])
  | .imm (.sl sz es) => some (sz,es)
  | .e0 sz => some (sz,[])
  | .ref id sz lo n => match deep st (.ref id sz lo n) with | some (.sl sz es) => some (sz,es) | _ => none
  | _ => none
def room : Nat:=70368744177664
def restE (sz : Nat) (l : List (List D)) (k : Nat) : List (List D):=match sz with | 0 => [] | _ + 1 => l.drop k
def aAppend (st : List AO) (nid sz bytes : Nat) (s x : AV) : Option (AV × Option Nat × List AO) :=
  match srcOf st x with
  | none => none
  | some (sz',es) =>
    if es ≠ [] ∧ sz' ≠ sz then none else
    match s with
    | .imm .nil => if es.isEmpty then some (.imm .nil,none,[]) else if es.length * (bytes + 1) ≤ room then some (.ref nid sz 0 es.length,none,[.arr sz es]) else none
    | .e0 sz0 => if sz0 ≠ sz then none else if es.isEmpty then some (.e0 sz,none,[]) else if es.length * (bytes + 1) ≤ room then some (.ref nid sz 0 es.length,none,[.arr sz es]) else none
    | .ref id sz0 lo n => match st[id]? with
      | some (.arr sz1 old) =>
        if sz0 = sz ∧ sz1 = sz ∧ lo = 0 ∧ n ≤ old.length ∧ (n + es.length) * (bytes + 1) ≤ room then
          some (.ref nid sz 0 (n + es.length),some id,[.arr sz (old.take n ++ es ++ restE sz old (n + es.length))]) else none
      | _ => none
    | _ => none
def keyI : AV → Option Int
  | .imm (.int .i64 n) => some n
  | _ => none
def lookI (es : List (Int × D)) (k : Int) : Option D:=(es.find? fun e => e.1 == k).map (·.2)
def mapSet : List (Int × D) → Int → D → List (Int × D)
  | [],k,v => [(k,v)]
  | (q,d) :: r,k,v => if q = k then (k,v) :: r else (q,d) :: mapSet r k v
def opnds (vars env : List AV) (l : List Opnd) : List AV:=l.map (opnd vars env)
def shiftM (n : Nat) (i : Nat) : Option Nat:=some (n + i)
def callP (lo : Lower) (f : FuncId) (ds : List D) : Option D :=
  match lo.call f (ds.map .imm) [] none with
  | some (v,st,none) => deep st v
  | _ => none
def callI (lo : Lower) (f : FuncId) (ds : List D) : Option (AV × List AO) :=
  match lo.call f (ds.map .imm) [] none with
  | some (v,st,none) => some ((gc 0 [v] st).1.headD .junk,(gc 0 [v] st).2)
  | _ => none
def callS (lo : Lower) (f : FuncId) (vs : List AV) (st : List AO) : Option (AV × List AO) :=
  match lo.call f vs st none with
  | some (v,st',none) => some ((gc st.length [v] st').1.headD .junk,(gc st.length [v] st').2)
  | _ => none
def fnOf : AV → Option (FuncId × List AV × List AV)
  | .imm (.fn f a b) => some (f,a.map .imm,b.map .imm)
  | .clo f a b => some (f,a,b)
  | _ => none
def fz (st : List AO) (v : AV) : AV:=if isFrz st (ids v) then (match deep st v with | some d => .imm d | none => v) else v
def aBs (nid : Nat) (own : Bool) (sz : Nat) (z : List D) (n : Nat) (ps : List (Nat × AV)) : Option (AV × List AO) :=
  match n with
  | 0 => if ps.isEmpty then some (.e0 sz,[]) else none
  | n + 1 => match fillA ((List.replicate (n + 1) (z.map .imm)).flatten) (ps.map fun p => (p.1 * sz,sz,p.2)) with
    | some cs => match dsOf cs with
      | some ds => if (n + 1) * sz ≤ 16777216 ∧ cs.all single = true then (if own then some (.ref nid sz 0 (n + 1),[.arr sz (chunks sz (n + 1) ds)]) else some (.imm (.sl sz (chunks sz (n + 1) ds)),[])) else none
      | none => none
    | none => none
def aQ (lo : Lower) (vars env : List AV) (st : List AO) (nid : Nat) (op : IOp) : Option (AV × List AO) :=
  let o:=opnd vars env
  match op with
  | .mv x => some (o x,[])
  | .pick c a b => match o c with | .imm (.bool t) => some (match t with | true => o a | false => o b,[]) | _ => none
  | .alloc z => some (.ptr nid 0,[.box (z.map .imm)])
  | .box x => if (cellsOf (o x)).all single then some (.ptr nid 0,[.box (cellsOf (o x))]) else none
  | .boxi x => match dsOf (cellsOf (o x)) with | some ds => if (cellsOf (o x)).all single then some (.imm (.ptr ds),[]) else none | none => none
  | .build z ps => match fillA (z.map .imm) (ps.map fun p => (p.1,p.2.1,o p.2.2)) with
    | some cs => some (mkAgg cs,[])
    | none => none
  | .bslice own sz z n ps => aBs nid own sz z n (ps.map fun p => (p.1,o p.2))
  | .load agg n a => (aLoad st agg n (o a)).map (·,[])
  | .nilck x => match o x with | .ptr id off => some (.ptr id off,[]) | .imm (.ptr cs) => some (.imm (.ptr cs),[]) | _ => none
  | .bin op x y => (aBin op (o x) (o y)).map (·,[])
  | .eqs neg t x y => (aEq t (o x) (o y)).map fun b => (.imm (.bool (if neg then !b else b)),[])
  | .un op x => (aUn op (o x)).map (·,[])
  | .conv k x => match o x with | .imm (.int _ n) => some (.imm (.int k (wrp k n)),[]) | _ => none
  | .mkfn f a b => some (mkFn f (opnds vars env a) (opnds vars env b),[])
  | .mkmap => some (.map nid,[.imap []])
  | .lookup z m k => match o m,keyI (o k) with
    | .map id,some k => match st[id]? with | some (.imap es) => some (.imm ((lookI es k).getD z),[]) | _ => none
    | _,_ => none
  | .mkslice sz bytes z l c => match getI (o l),getI (o c) with
    | some l,some c => if 0 ≤ l ∧ l ≤ c ∧ bytes * c ≤ room ∧ c ≤ room then some (.ref nid sz 0 l.toNat,[.arr sz (List.replicate l.toNat z)]) else none
    | _,_ => none
  | .slice arr sz x lo hi mx =>
    let b (x : Option Opnd) : Option (Option Nat):=match x with
      | none => some none
      | some x => match getI (o x) with | some n => if 0 ≤ n then some (some n.toNat) else none | none => none
    match b lo,b hi,b mx with
    | some l,some h,some m => (aSlice st arr sz (o x) l h m).map (·,[])
    | _,_,_ => none
  | .faddr off x => match o x with | .ptr id a => some (.ptr id (a + off),[]) | .imm (.ptr cs) => some (.imm (.ptr (cs.drop off)),[]) | _ => none
  | .field agg off n x =>
    match aggOf (o x) with
    | some cs => if off + n ≤ cs.length then (if agg then some (mkAgg ((cs.drop off).take n),[]) else if n = 1 then (cs[off]?).map (·,[]) else none) else none
    | none => none
  | .iaddr arr sz x i => match getI (o i) with | some i => (aIaddr arr sz (o x) i).map (·,[]) | none => none
  | .index len sz agg x i => match getI (o i) with
    | some i => match aggOf (o x) with
      | some cs => if 0 ≤ i ∧ i < len ∧ (i.toNat + 1) * sz ≤ cs.length then
        (if agg then some (mkAgg ((cs.drop (i.toNat * sz)).take sz),[]) else if sz = 1 then (cs[i.toNat]?).map (·,[]) else none) else none
      | none => none
    | none => none
  | .extract x i => match o x with
    | .imm (.tup ds) => (ds[i]?).map (.imm ·,[])
    | .tup vs => (vs[i]?).map (·,[])
    | _ => none
  | .len k x => match aLen k (o x) st with | some n => some (.imm (.int .i64 (n : Int)),[]) | none => none
  | .mnmx isMin x y => match o x,o y with
    | .imm (.int k a),.imm (.int _ b) => some (.imm (.int k (if isMin then (if b < a then b else a) else (if a < b then b else a))),[])
    | _,_ => none
  | .append sz bytes s x => match aAppend st nid sz bytes (o s) (o x) with
    | some (v,none,news) => some (v,news)
    | _ => none
  | .call m f args =>
    match fnOf (o f) with
    | none => none
    | some (f,a,b) =>
      let all:=a ++ opnds vars env args ++ b
      match deepL st all with
      | none => none
      | some ds => match m with
        | .pure => match callP lo f ds with
          | some d => if isFrz st (idsL all) || flatD d then some (.imm d,[]) else none
          | none => none
        | .imp => match callI lo f ds with
          | some r => if isFrz st (idsL all) || (flatV r.1 && flatOL r.2) then some (ren (shiftM nid) r.1,r.2.map (renO (shiftM nid))) else none
          | none => none
        | .fz => match callI lo f ds with
          | some r => if isFrz st (idsL all) || (flatV r.1 && flatOL r.2) then (match deep r.2 r.1 with | some d => some (.imm d,[]) | none => none) else none
          | none => none
        | .sh => none
  | .same x => some (o x,[])
  | _ => none
def aCall (lo : Lower) (vars env : List AV) (s : S) (m : Mode) (f : Opnd) (args : List Opnd) : Option (AV × S) :=
  let o:=opnd vars env
  match o f with
  | .yield => match s.ext,dsOf (opnds vars env args) with
    | some e,some ds => match lo.round e ds with
      | some (e',b) => some (.imm (.bool b),{ s with ext:=some e' })
      | none => none
    | _,_ => none
  | fv =>
    match fnOf fv with
    | none => none
    | some (f,a,b) =>
      let all:=a ++ opnds vars env args ++ b
      match m with
      | .pure => match deepL s.st all with
        | none => none
        | some ds => match callP lo f ds with
          | none => none
          | some d => if isFrz s.st (idsL all) || flatD d then some (.imm d,s) else match freeze s.st (idsL all) with
              | some st'' => some (.imm d,{ s with st:=st'' })
              | none => none
      | .imp => match deepL s.st all with
        | none => none
        | some ds => match callI lo f ds with
          | none => none
          | some r => if isFrz s.st (idsL all) || (flatV r.1 && flatOL r.2) then some (ren (shiftM s.st.length) r.1,{ s with st:=s.st ++ r.2.map (renO (shiftM s.st.length)) })
            else match freeze s.st (idsL all) with
              | some st'' => some (ren (shiftM s.st.length) r.1,{ s with st:=st'' ++ r.2.map (renO (shiftM s.st.length)) })
              | none => none
      | .fz => match deepL s.st all with
        | none => none
        | some ds => match callI lo f ds with
          | none => none
          | some r => if isFrz s.st (idsL all) || (flatV r.1 && flatOL r.2) then (match deep r.2 r.1 with | some d => some (.imm d,s) | none => none) else none
      | .sh =>
        let l:=reach s.st 1000 [] (idsL all)
        if s.ext.isSome || !l.all (fun i => decide (i < s.st.length)) then none else
        match callS lo f (renL (idx l) all) (pickSt (idx l) l s.st) with
        | some r =>
          let m:=fun j => if j < l.length then l[j]? else some (s.st.length + (j - l.length))
          let st1:=(List.range s.st.length).map fun i => match idx l i with
            | some j => renO m (r.2.getD j .dead)
            | none => s.st.getD i .dead
          some (ren m r.1,{ s with st:=st1 ++ (r.2.drop l.length).map (renO m) })
        | none => none
def aOp (lo : Lower) (vars env : List AV) (s : S) (op : IOp) : Option (AV × S) :=
  let o:=opnd vars env
  match op with
  | .store n a x => match aStore s.st n (o a) (o x) with
    | some st => some (.junk,{ s with st:=st })
    | none => none
  | .append sz bytes a x => match aAppend s.st s.st.length sz bytes (o a) (o x) with
    | some (v,none,news) => some (v,{ s with st:=s.st ++ news })
    | some (v,some id,news) => some (v,{ s with st:=s.st.set id .dead ++ news })
    | none => none
  | .mapup m k v => match o m,keyI (o k),o v with
    | .map id,some k,.imm v => match s.st[id]? with
      | some (.imap es) => some (.junk,{ s with st:=s.st.set id (.imap (mapSet es k v)) })
      | _ => none
    | _,_,_ => none
  | .copy sz d x => match o d,srcOf s.st (o x) with
    | .ref id sz' a n,some (sz'',es) =>
      if sz' = sz ∧ (es = [] ∨ sz'' = sz) then
        let k:=min es.length n
        match s.st[id]? with
        | some (.arr sz1 old) => if sz1 = sz ∧ a + n ≤ old.length then some (.imm (.int .i64 k),{ s with st:=s.st.set id (.arr sz (setRange old a (es.take k))) }) else none
        | some (.box cs) => if (a + n) * sz ≤ cs.length ∧ (es.take k).flatten.length = k * sz then some (.imm (.int .i64 k),{ s with st:=s.st.set id (.box (setRange cs (a * sz) ((es.take k).flatten.map .imm))) }) else none
        | _ => none
      else none
    | .imm .nil,some _ => some (.imm (.int .i64 0),s)
    | .e0 _,some _ => some (.imm (.int .i64 0),s)
    | _,_ => none
  | .clear z x => match o x with
    | .ref id sz0 a n => match s.st[id]? with
      | some (.arr sz1 old) => if z.length = sz1 ∧ sz0 = sz1 ∧ a + n ≤ old.length then some (.imm (.tup []),{ s with st:=s.st.set id (.arr sz1 (setRange old a (List.replicate n z))) }) else none
      | _ => none
    | .imm .nil => some (.imm (.tup []),s)
    | .e0 _ => some (.imm (.tup []),s)
    | _ => none
  | .range x => match o x with
    | .imm (.str b) => some (.ptr s.st.length 0,{ s with st:=s.st ++ [.iter b 0] })
    | _ => none
  | .next x => match o x with
    | .ptr id 0 => match s.st[id]? with
      | some (.iter b pos) => if pos < b.size then
          some (.imm (.tup [.bool true,.int .i64 pos,.int .i32 (Utf8.decode b pos).1]),{ s with st:=s.st.set id (.iter b (pos + (Utf8.decode b pos).2)) })
        else some (.imm (.tup [.bool false]),s)
      | _ => none
    | _ => none
  | .bslice own sz z n ps => match freeze s.st (idsL (ps.map fun p => o p.2)) with
    | some st' => match aBs st'.length own sz z n (ps.map fun p => (p.1,fz st' (o p.2))) with
      | some (v,news) => some (v,{ s with st:=st' ++ news })
      | none => none
    | none => none
  | .call m f args => aCall lo vars env s m f args
  | op => match aQ lo vars env s.st s.st.length op with
    | some (v,news) => some (v,{ s with st:=s.st ++ news })
    | none => none
def setW (vars : List AV) (w : Option Nat) (v : AV) : List AV:=match w with | some i => vars.set i v | none => vars
def wantG (env : List AV) : Option (Nat × Bool) → Option Bool
  | none => some true
  | some (j,b) => match env.getD j .junk with
    | .imm (.bool c) => some (match c,b with | true,true => true | false,false => true | _,_ => false)
    | .imm (.tup []) => some false
    | _ => none
def aOps (lo : Lower) : List ROp → List AV → S → Option (List AV × S)
  | [],env,s => some (env,s)
  | r :: rest,env,s => match wantG env r.g with
    | none => none
    | some false => aOps lo rest (env ++ [.imm (.tup [])]) { s with vars:=setW s.vars r.w (.imm (.tup [])) }
    | some true => match aOp lo s.vars env s r.op with
      | none => none
      | some (v,s) => aOps lo rest (env ++ [v]) { s with vars:=setW s.vars r.w v }
def rIds (vars env : List AV) (op : IOp) : List Nat :=
  match op with
  | .load _ _ a => ids (opnd vars env a)
  | .len _ x => ids (opnd vars env x)
  | .slice _ _ x _ _ _ => ids (opnd vars env x)
  | .lookup _ m _ => ids (opnd vars env m)
  | .append _ _ _ x => ids (opnd vars env x)
  | .call _ f args => ids (opnd vars env f) ++ idsL (opnds vars env args)
  | _ => []
def aQs (lo : Lower) (st : List AO) (fl : List Nat) : List ROp → List AV → List AV → List AO → List Nat → Option (List AV × List AV × List AO × List Nat)
  | [],env,vars,news,fs => some (env,vars,news,fs)
  | r :: rest,env,vars,news,fs => match wantG env r.g with
    | none => none
    | some false => aQs lo st fl rest (env ++ [.imm (.tup [])]) (setW vars r.w (.imm (.tup []))) news fs
    | some true => match aQ lo vars env st (st.length + news.length) r.op with
      | none => none
      | some (v,n1) => if fl.contains env.length && !n1.isEmpty then none else
        aQs lo st fl rest (env ++ [v]) (setW vars r.w v) (news ++ n1) (if fl.contains env.length then rIds vars env r.op ++ fs else fs)
def wIds (vars env : List AV) (st : List AO) (op : IOp) : List Nat :=
  let o:=opnd vars env
  match op with
  | .store _ a _ => ids (o a)
  | .append _ _ a _ => ids (o a)
  | .mapup m _ _ => ids (o m)
  | .copy _ d _ => ids (o d)
  | .clear _ x => ids (o x)
  | .next x => ids (o x)
  | .bslice _ _ _ _ ps => idsL (ps.map fun p => o p.2)
  | .call _ f args => (ids (o f) ++ idsL (opnds vars env args)) ++ reach st 1000 [] (idsL (match fnOf (o f) with | some (_,a,b) => a ++ opnds vars env args ++ b | none => []))
  | _ => []
def apartL (a b : List Nat) : Bool:=a.all fun i => !b.contains i
def aOpsT (lo : Lower) (fs : List Nat) : List ROp → List AV → S → Option (List AV × S)
  | [],env,s => some (env,s)
  | r :: rest,env,s => match wantG env r.g with
    | none => none
    | some false => aOpsT lo fs rest (env ++ [.imm (.tup [])]) { s with vars:=setW s.vars r.w (.imm (.tup [])) }
    | some true => if apartL (wIds s.vars env s.st r.op) fs then match aOp lo s.vars env s r.op with
      | none => none
      | some (v,s) => aOpsT lo fs rest (env ++ [v]) { s with vars:=setW s.vars r.w v }
      else none
def aTail (lo : Lower) (fs : List Nat) (c : Nat) (ops : List ROp) (env : List AV) (s : S) : Option (List AV × S) :=
  match c with
  | 0 => aOpsT lo fs ops env s
  | c + 1 => match aOpsT lo fs (ops.take c) env s with
    | some (env,s) => aOps lo (ops.drop c) env s
    | none => none
def aRegion (lo : Lower) (ops : List ROp) (draw : Option (Nat × List Nat)) (s : S) : Option S :=
  match draw with
  | none => match aOps lo ops [] s with | some (_,s) => some s | none => none
  | some (m,fl) => match aQs lo s.st fl (ops.take (m % 1000)) [] s.vars [] [] with
    | none => none
    | some (env,vars,news,fs) => match aTail lo fs (m / 1000) (ops.drop (m % 1000)) env { s with vars:=vars,st:=s.st ++ news } with
      | some (_,s) => some s
      | none => none
structure Cx where
  nb : Nat
  rd : Bool
def keepVars : List Nat → List AV → List AV
  | _,[] => []
  | [],_ :: r => .junk :: keepVars [] r
  | 0 :: ks,_ :: r => .junk :: keepVars ks r
  | _ :: ks,v :: r => v :: keepVars ks r
def head (cx : Cx) (keep : List Nat) (s : S) : S :=
  let g:=gc cx.nb (keepVars keep s.vars) s.st
  { s with vars:=g.1,st:=g.2 }
def loopN (f : S → Option (AExit × S)) (h : S → S) : Nat → S → Option (AExit × S)
  | 0,_ => none
  | n + 1,s => match f (h s) with
    | some (.normal,s') => loopN f h n s'
    | r => r
def setPs (vars : List AV) : List Nat → List D → List AV
  | p :: ps,d :: ds => setPs (vars.set p (.imm d)) ps ds
  | _,_ => vars
open Classical in
noncomputable def loopC (f : S → Option (AExit × S)) (h : S → S) (s : S) : Option (AExit × S) :=
  if hx : ∃ r,∃ n,loopN f h n s = some r then some (Classical.choose hx) else none
theorem loopN_up {f : S → Option (AExit × S)} {h : S → S} : ∀ {n : Nat} {s : S} {r : AExit × S} (k : Nat),loopN f h n s = some r → loopN f h (n + k) s = some r
  | 0,s,r,k,hr => by simp [loopN] at hr
  | n + 1,s,r,k,hr => by
    rw [show n + 1 + k = (n + k) + 1 by omega]
    simp only [loopN] at hr ⊢
    split at hr
    · exact loopN_up k hr
    · exact hr
theorem loopN_det {f : S → Option (AExit × S)} {h : S → S} {n m : Nat} {s : S} {r r' : AExit × S} (h1 : loopN f h n s = some r) (h2 : loopN f h m s = some r') : r = r':=by
  have a:=loopN_up m h1
  have b:=loopN_up n h2
  rw [Nat.add_comm m n,a] at b
  exact Option.some.inj b
theorem loopC_ex {f : S → Option (AExit × S)} {h : S → S} {s : S} {r : AExit × S} (hr : loopC f h s = some r) : ∃ n,loopN f h n s = some r:=by
  unfold loopC at hr
  split at hr
  · rename_i hx
    injection hr with hr
    subst hr
    exact Classical.choose_spec hx
  · cases hr
theorem loopC_of {f : S → Option (AExit × S)} {h : S → S} {n : Nat} {s : S} {r : AExit × S} (hr : loopN f h n s = some r) : loopC f h s = some r:=by
  unfold loopC
  have hx : ∃ r,∃ n,loopN f h n s = some r:=⟨r,n,hr⟩
  rw [dif_pos hx]
  obtain ⟨m,hm⟩:=Classical.choose_spec hx
  rw [loopN_det hm hr]
theorem loopC_step (f : S → Option (AExit × S)) (h : S → S) (s : S) : loopC f h s = match f (h s) with
    | some (.normal,s') => loopC f h s'
    | r => r:=by
  cases hl : loopC f h s with
  | some r =>
    obtain ⟨n,hn⟩:=loopC_ex hl
    cases n with
    | zero => simp [loopN] at hn
    | succ n =>
      simp only [loopN] at hn
      split at hn
      · exact (loopC_of hn).symm
      · exact hn.symm
  | none =>
    have no : ∀ n r,loopN f h n s ≠ some r:=fun n r hc => by rw [loopC_of hc] at hl; cases hl
    split
    · rename_i s' hf
      cases hl2 : loopC f h s' with
      | none => rfl
      | some r =>
        obtain ⟨n,hn⟩:=loopC_ex hl2
        exact absurd (by simp only [loopN,hf]; exact hn) (no (n + 1) r)
    · rename_i r hne
      cases hf : f (h s) with
      | none => rfl
      | some r =>
        refine absurd ?_ (no 1 r)
        simp only [loopN]
        first
        | exact hf
        | (split
           · rename_i s' he; exact (hne s' he).elim
           · exact hf)
noncomputable def aCode (lo : Lower) (cx : Cx) : IR → S → Option (AExit × S)
  | .skip,s => some (.normal,s)
  | .region ops dr,s => match aRegion lo ops dr s with | some s => some (.normal,s) | none => none
  | .seq a b,s => match aCode lo cx a s with
    | some (.normal,s) => aCode lo cx b s
    | r => r
  | .cond c a b,s => match opnd s.vars [] c with
    | .imm (.bool t) => match t with | true => aCode lo cx a s | false => aCode lo cx b s
    | _ => none
  | .block id b,s => match aCode lo cx b s with
    | some (.exit i,s) => some (if i = id then .normal else .exit i,s)
    | r => r
  | .loop keep out b,s => match loopC (aCode lo cx b) (head cx keep) s with
    | some (x,s') => some (x,head cx out s')
    | none => none
  | .exit id,s => some (.exit id,s)
  | .ret,s => some (.ret,s)
  | .scope b,s => if cx.rd then none else aCode lo cx b s
  | .rfunc f ps asg body,s =>
    if cx.rd ∨ s.ext.isSome then none else
    match opnd s.vars [] f with
    | .imm (.fn g a b) =>
      match lo.call g (a.map .imm ++ [.yield] ++ b.map .imm) [] (some { ps:=ps,asg:=asg,body:=body,vars:=s.vars,st:=s.st,nb:=cx.nb,pend:=none }) with
      | some (_,_,some e) => some (e.pend.getD .normal,{ vars:=e.vars,st:=e.st,ext:=none })
      | _ => none
    | _ => none
def resV (s : S) : RV → Option AV
  | .v i => some (s.vars.getD i .junk)
  | .cell i agg n => aLoad s.st agg n (s.vars.getD i .junk)
def resVs (s : S) : List RV → Option (List AV)
  | [] => some []
  | r :: rs => match resV s r,resVs s rs with | some v,some vs => some (v :: vs) | _,_ => none
def results (s : S) (l : List RV) : Option AV :=
  match resVs s l with
  | some [v] => some v
  | some vs => some (mkTup vs)
  | none => none
noncomputable def runFn (lo : Lower) (fn : IFn) (args : List AV) (st : List AO) (ext : Option Ext) : Option (AV × List AO × Option Ext) :=
  if fn.np < args.length then none else
  match aCode lo { nb:=st.length,rd:=false } fn.body { vars:=args ++ List.replicate (fn.nv - args.length) .junk,st:=st,ext:=ext } with
  | some (.normal,s) => match results s fn.res with | some v => some (v,s.st,s.ext) | none => none
  | some (.ret,s) => match results s fn.res with | some v => some (v,s.st,s.ext) | none => none
  | _ => none
noncomputable def runRound (lo : Lower) (e : Ext) (ds : List D) : Option (Ext × Bool) :=
  match e.pend with
  | some _ => none
  | none => if ds.length ≠ e.ps.length then none else
    match aCode lo { nb:=e.st.length,rd:=true } e.asg { vars:=setPs e.vars e.ps ds,st:=e.st,ext:=none } with
    | some (.normal,s1) => match aCode lo { nb:=e.st.length,rd:=true } e.body s1 with
      | some (x,s2) =>
        let g:=gc e.nb e.vars s2.st
        some ({ e with vars:=g.1,st:=g.2,pend:=if x = .normal then none else some x },decide (x = .normal))
      | none => none
    | _ => none
structure Env where
  fn : FuncId → Option IFn
  prim : FuncId → Option (List AV → List AO → Option (AV × List AO))
def runPrim (E : Env) (f : FuncId) (args : List AV) (st : List AO) (ext : Option Ext) : Option (AV × List AO × Option Ext) :=
  match E.prim f with
  | some g => match g args st with | some (v,st') => some (v,st',ext) | none => none
  | none => none
noncomputable def level (E : Env) : Nat → Lower
  | 0 => { call:=fun _ _ _ _ => none,round:=fun _ _ => none }
  | n + 1 =>
    { call:=fun f args st ext => match E.fn f with | some fn => runFn (level E n) fn args st ext | none => runPrim E f args st ext
      round:=fun e ds => runRound (level E n) e ds }
end Go.Vm

/- From the model's compiled code to the abstract machine's: a checked translation. -/
namespace Go.Vm
open Go
def dOfCell : Value → Option D
  | .int k n => some (.int k n)
  | .bool b => some (.bool b)
  | .string s => some (.str s)
  | .slice none 0 0 => some .nil
  | .pointer none => some .nilp
  | .nilFunc => some .nilf
  | .map none => some .nilm
  | _ => none
def dsOfCells : List Value → Option (List D)
  | [] => some []
  | v :: r => match dOfCell v,dsOfCells r with | some d,some ds => some (d :: ds) | _,_ => none
def dOfV : Value → Option D
  | .agg cs => (dsOfCells cs.toList).map .agg
  | v => dOfCell v
section
variable (P : Program)
def isAggB (t : TypeId) : Option Bool :=
  match P.underlying t with
  | some (.struct _) | some (.array _ _) => some true
  | some _ => some false
  | none => none
def sizeB (t : TypeId) : Option Nat:=(P.info? t).map (·.size)
def bytesB (t : TypeId) : Option Nat:=(P.info? t).map (·.bytes)
def zeroB (t : TypeId) : Option (List D) :=
  match P.info? t with
  | some i => match i.zero with
    | some v => match dsOfCells v.cells.toList with
      | some ds => if ds.length = i.size then some ds else none
      | none => none
    | none => none
  | none => none
def zero1B (t : TypeId) : Option D :=
  match P.info? t with
  | some i => match i.zero with
    | some v => dOfCell v
    | none => none
  | none => none
def etyFs (f : TypeId → Option ETy) (n : Nat) : List Field → Option (List (Nat × ETy))
  | [] => some []
  | x :: r => if x.name = "_" then none else match f x.type,sizeB P x.type,etyFs f n r with
    | some e,some k,some l => if x.offset + k ≤ n then some ((x.offset,e) :: l) else none
    | _,_,_ => none
def etyB : Nat → TypeId → Option ETy
  | 0,_ => none
  | n + 1,t => match P.underlying t with
    | some (.int _) => if sizeB P t = some 1 then some .int else none
    | some .bool => if sizeB P t = some 1 then some .bool else none
    | some (.struct fs) => match sizeB P t with
      | some k => if P.stoodInHeld t then none else (etyFs P (etyB n) k fs.toList).map .agg
      | none => none
    | some (.array len e) => match etyB n e,sizeB P e,sizeB P t with
      | some q,some sz,some k => if len * sz ≤ k then some (.agg ((List.range len).map fun i => (i * sz,q))) else none
      | _,_,_ => none
    | _ => none
structure Hint where
  own : Bool:=false
  fb : Bool:=false
  dyn : Mode:=.pure
  nt : Nat:=0
  md : List (FuncId × Mode):=[]
  late : Bool:=false
structure Ctx where
  slots : List Nat
  dsts : List (Option Nat)
  pos : Nat → Option Nat
  glob : Nat → Option (List D)
  h : Hint
def compO (C : Ctx) : Operand → Option Opnd
  | .tmp t => match C.slots.idxOf? t with
    | some i => some (.var i)
    | none => (C.dsts.idxOf? (some t)).map .loc
  | .const v => (dOfV v).map .k
  | .global g => (C.glob g).map fun cs => .k (.ptr cs)
  | .func f => some (.k (.fn f [] []))
def compOo (C : Ctx) : Option Operand → Option (Option Opnd)
  | none => some none
  | some x => (compO C x).map some
def compP2 (C : Ctx) (place : Nat → Option (Nat × Nat)) : List (Nat × Operand) → Option (List (Nat × Nat × Opnd))
  | [] => some []
  | (i,x) :: r => match place i,compO C x,compP2 C place r with
    | some (off,n),some x,some r => some ((off,n,x) :: r)
    | _,_,_ => none
def compP1 (C : Ctx) : List (Nat × Operand) → Option (List (Nat × Opnd))
  | [] => some []
  | (i,x) :: r => match compO C x,compP1 C r with
    | some x,some r => some ((i,x) :: r)
    | _,_ => none
def compL (C : Ctx) : List Operand → Option (List Opnd)
  | [] => some []
  | x :: r => match compO C x,compL C r with | some x,some r => some (x :: r) | _,_ => none
def compOp (C : Ctx) (o : Oper) : Option IOp :=
  let c:=compO C
  match o.op with
  | .move x | .assign x => (c x).map .mv
  | .pick x a b => do some (.pick (← c x) (← c a) (← c b))
  | .alloc t => (zeroB P t).map .alloc
  | .box _ x => match C.h.fb with | false => (c x).map .box | true => (c x).map .boxi
  | .build t ps => do
    let z ← zeroB P t
    match P.underlying t with
    | some (.struct fs) => if fs.toList.any (fun f => (sizeB P f.type).isNone) then none else some (.build z (← compP2 C (fun i => do let f ← fs[i]?; some (f.offset,← sizeB P f.type)) ps.toList))
    | some (.array _ e) => do let sz ← sizeB P e; some (.build z (← compP2 C (fun i => some (i * sz,sz)) ps.toList))
    | _ => none
  | .buildSlice t n ps => do
    match P.underlying t with
    | some (.slice e) => some (.bslice C.h.own (← sizeB P e) (← zeroB P e) n (← compP1 C ps.toList))
    | _ => none
  | .load t a => do some (.load (← isAggB P t) (← sizeB P t) (← c a))
  | .store t a x => do some (.store (← sizeB P t) (← c a) (← c x))
  | .nilCheck x => (c x).map .nilck
  | .binOp op t x y _ => do
    let x ← c x
    let y ← c y
    match op with
    | .eql | .neq => match P.underlying t with
      | some (.int _) => some (.bin op x y)
      | some .bool => some (.eqs (op == .neq) .bool x y)
      | some (.slice _) => some (.eqs (op == .neq) .nilsl x y)
      | _ => if P.eqGuardType P.depth t then none else do some (.eqs (op == .neq) (← etyB P 8 t) x y)
    | _ => some (.bin op x y)
  | .unOp op _ x => (c x).map (.un op)
  | .convert s d x => match P.underlying s,P.underlying d with
    | some (.int _),some (.int k) => (c x).map (.conv k)
    | _,_ => none
  | .makeFunc (.func f) a b => do some (.mkfn f (← compL C a.toList) (← compL C b.toList))
  | .makeMap _ none => some .mkmap
  | .lookup t m k false => do
    match P.underlying t with
    | some (.map kt e) => match P.underlying kt,zero1B P e with
      | some (.int _),some z => some (.lookup z (← c m) (← c k))
      | _,_ => none
    | _ => none
  | .mapUpdate t m k v => do
    match P.underlying t with
    | some (.map kt _) => match P.underlying kt with
      | some (.int _) => some (.mapup (← c m) (← c k) (← c v))
      | _ => none
    | _ => none
  | .makeSlice t l cp => do
    match P.underlying t with
    | some (.slice e) => some (.mkslice (← sizeB P e) (← bytesB P e) (← zeroB P e) (← c l) (← c cp))
    | _ => none
  | .slice t x l h m => do
    match P.underlying t with
    | some (.array n e) => some (.slice (some n) (← sizeB P e) (← c x) (← compOo C l) (← compOo C h) (← compOo C m))
    | some (.slice e) => some (.slice none (← sizeB P e) (← c x) (← compOo C l) (← compOo C h) (← compOo C m))
    | _ => none
  | .fieldAddr t x f => do
    match P.underlying t with
    | some (.struct fs) =>
      let f ← fs[f]?
      if (← sizeB P f.type) = 0 then none else some (.faddr f.offset (← c x))
    | _ => none
  | .field t x f => do
    match P.underlying t with
    | some (.struct fs) =>
      let f ← fs[f]?
      some (.field (← isAggB P f.type) f.offset (← sizeB P f.type) (← c x))
    | _ => none
  | .indexAddr t x i => do
    match P.underlying t with
    | some (.array n e) => some (.iaddr (some n) (← sizeB P e) (← c x) (← c i))
    | some (.slice e) => some (.iaddr none (← sizeB P e) (← c x) (← c i))
    | _ => none
  | .index t x i => do
    match P.underlying t with
    | some (.array n e) => some (.index n (← sizeB P e) (← isAggB P e) (← c x) (← c i))
    | _ => none
  | .range t x => match P.underlying t with
    | some .string => (c x).map .range
    | _ => none
  | .next x true => (c x).map .next
  | .extract x i => do some (.extract (← c x) i)
  | .call { callee:=.value f,args,.. } => do some (.call (match f with | .func g => ((C.h.md.find? fun p => p.1 == g).map (·.2)).getD .pure | _ => C.h.dyn) (← c f) (← compL C args.toList))
  | .call { callee:=.builtin b,args,argTypes } =>
    match b,args.toList,argTypes.toList with
    | .len,[x],[t] => match P.underlying t with
      | some .string => (c x).map (.len .str)
      | some (.slice _) => (c x).map (.len .sl)
      | some (.map _ _) => (c x).map (.len .mp)
      | _ => none
    | .append,[s,x],[t,u] => do
      match P.underlying t,P.underlying u with
      | some (.slice e),some (.slice _) => do
        let _ ← zeroB P e
        some (.append (← sizeB P e) (← bytesB P e) (← c s) (← c x))
      | _,_ => none
    | .min,[x,y],_ => do some (.mnmx true (← c x) (← c y))
    | .max,[x,y],_ => do some (.mnmx false (← c x) (← c y))
    | .copy,[d,s],[t,_] => do
      match P.underlying t with
      | some (.slice e) => some (.copy (← sizeB P e) (← c d) (← c s))
      | _ => none
    | .clear,[x],[t] => do
      match P.underlying t with
      | some (.slice e) => some (.clear (← zeroB P e) (← c x))
      | _ => none
    | _,_,_ => none
  | _ => none
def compG (C : Ctx) : Option (Nat × Bool) → Option (Option (Nat × Bool))
  | none => some none
  | some (j,b) => (C.pos j).map fun j => some (j,b)
def compOps (C : Ctx) : List Oper → Option (List ROp)
  | [] => some []
  | o :: r => match compOp P C o,compG C o.guard,compOps C r with
    | some op,some g,some rs => some ({ w:=o.dst.bind fun d => C.slots.idxOf? d,g:=g,op:=op } :: rs)
    | _,_,_ => none
def writes (ops : List Oper) (dyn : Bool) (md : List (FuncId × Mode)) (o : Oper) : Bool :=
  match o.op with
  | .store .. | .mapUpdate .. | .next .. | .range .. => true
  | .call { callee:=.builtin .append,args,.. } => match args.toList with
    | .tmp t :: _ => !ops.any fun p => p.dst == some t && (match p.op with | .buildSlice _ 0 _ => true | _ => false)
    | .const _ :: _ => false
    | _ => true
  | .call { callee:=.builtin .copy,.. } | .call { callee:=.builtin .clear,.. } => true
  | .call { callee:=.value (.tmp _),.. } => dyn
  | .call { callee:=.value (.func g),.. } => (match md.find? fun p => p.1 == g with | some (_,.sh) => true | _ => false)
  | _ => false
def tset (ops : List Oper) (dyn : Bool) (md : List (FuncId × Mode)) (b : List Nat) : List Nat :=
  (List.range ops.length).foldl (fun acc i =>
    if (match ops[i]? with | some o => writes ops dyn md o || (match o.dst with | some d => (ops.take i).any fun p => p.op.operands.toList.any fun x => (match x with | .tmp u => u == d | _ => false) | none => false) | none => false) || acc.any (fun j => (b.getD i 0).testBit j) then acc ++ [i] else acc) []
def befs : List Oper → List Nat → List Nat
  | [],acc => acc
  | o :: r,acc => befs r (acc ++ [o.after.toList.foldl (fun m e => if Region.binds .any e then m ||| 1 <<< e.on ||| acc.getD e.on 0 else m) 0])
def dstOf (ops : List Oper) (i : Nat) : Option Tmp:=(ops[i]?).bind (·.dst)
def looks (ops : Array Oper) (i : Nat) : List Tmp:=match ops[i]? with | some o => o.looksAt ops | none => []
def quietOk (ops : Array Oper) (q : List Nat) : Bool :=
  q.all fun k => (q.all fun j => j == k || (dstOf ops.toList j).isNone || dstOf ops.toList j != dstOf ops.toList k) &&
    (looks ops k).all fun t => q.all fun j => dstOf ops.toList j != some t ||
      (decide (j < k) && match ops[k]? with | some o => o.after.any fun e => e.on == j && Region.binds .any e | none => false)
def chainOk (ops : Array Oper) (b : List Nat) (q t : List Nat) : Bool :=
  t.all fun i => (t.all fun j => decide (i ≤ j) || (b.getD i 0).testBit j) &&
    q.all fun k => (b.getD i 0).testBit k ||
      ((match dstOf ops.toList k with | some d => !(looks ops i).contains d && dstOf ops.toList i != some d | none => true) &&
       (match dstOf ops.toList i with | some d => !(looks ops k).contains d | none => true))
def flagged (b : List Nat) (q t : List Nat) : List Nat:=q.filter fun k => t.any fun i => !(b.getD i 0).testBit k
def edgesOk (ops : Array Oper) : Bool :=
  (List.range ops.size).all fun i => match ops[i]? with | some o => o.after.all fun e => !Region.binds .any e || decide (e.on < i) | none => false
def localsOk (nt : Nat) (ops : List Oper) (slots : List Nat) : Bool :=
  let ds:=(ops.filterMap (·.dst)).filter fun d => !slots.contains d
  decide (ds.Nodup) && ops.all (fun o => match o.dst with | some d => decide (d < nt) | none => true) && ops.zipIdx.all fun (o,i) => o.op.operands.toList.all fun x => match x with
    | .tmp t => slots.contains t || (ops.take i).any fun p => p.dst == some t
    | _ => true
def guardsOk (ops : List Oper) (slots : List Nat) : Bool :=
  ops.zipIdx.all fun (o,i) => match o.guard with
    | none => true
    | some (j,_) => decide (j < i) && match dstOf ops j with | some d => !slots.contains d | none => false
def pickOps (ops : List Oper) (l : List Nat) : List Oper:=l.filterMap fun i => ops[i]?
def lateAt (b q t : List Nat) : Nat :=
  match (List.range t.length).find? fun r => (t.drop r).all fun i => q.all fun k => (b.getD i 0).testBit k with
  | some r => r + 1
  | none => 0
def compRegion (slots : List Nat) (glob : Nat → Option (List D)) (h : Hint) (ops : Array Oper) (draw : Bool) : Option IR :=
  if !(localsOk h.nt ops.toList slots && guardsOk ops.toList slots) then none else
  if !draw then
    (compOps P { slots:=slots,dsts:=ops.toList.map (·.dst),pos:=fun i => some i,glob:=glob,h:=h } ops.toList).map (.region · none)
  else
    let b:=befs ops.toList []
    let t:=tset ops.toList (h.dyn == .sh) h.md b
    let q:=(List.range ops.size).filter fun i => !t.contains i
    let fl:=flagged b q t
    let c:=if h.late && !fl.isEmpty then lateAt b q t else 0
    if quietOk ops q && chainOk ops b q t && edgesOk ops && decide (q.Pairwise (· < ·)) && decide (t.Pairwise (· < ·)) && t.all (fun i => decide (i < ops.size)) && decide (q.length < 1000) then
      let order:=q ++ t
      let l:=pickOps ops.toList order
      (compOps P { slots:=slots,dsts:=l.map (·.dst),pos:=fun i => order.idxOf? i,glob:=glob,h:=h } l).map fun rs =>
        .region rs (some (q.length + 1000 * c,fl.filterMap fun k => order.idxOf? k))
    else none
def comp (slots : List Nat) (glob : Nat → Option (List D)) (h : Hint) : Code → List (List Nat) → Option (IR × List (List Nat))
  | .skip,ks => some (.skip,ks)
  | .region _ ops draw,ks => (compRegion P slots glob h ops draw).map (·,ks)
  | .seq a b,ks => match comp slots glob h a ks with
    | some (a,ks) => match comp slots glob h b ks with
      | some (b,ks) => some (.seq a b,ks)
      | none => none
    | none => none
  | .cond (.tmp t) a b,ks => match slots.idxOf? t,comp slots glob h a ks with
    | some i,some (a,ks) => match comp slots glob h b ks with
      | some (b,ks) => some (.cond (.var i) a b,ks)
      | none => none
    | _,_ => none
  | .block id b,ks => match comp slots glob h b ks with
    | some (b,ks) => some (.block id b,ks)
    | none => none
  | .loop b,k :: k2 :: ks => match comp slots glob h b ks with
    | some (b,ks) => some (.loop k k2 b,ks)
    | none => none
  | .exit id,ks => some (.exit id,ks)
  | .ret,ks => some (.ret,ks)
  | .label _,ks => some (.skip,ks)
  | .scope b,ks => match comp slots glob h b ks with
    | some (b,ks) => some (.scope b,ks)
    | none => none
  | .rangeFunc (.tmp t) ps asg body,ks => match slots.idxOf? t,ps.toList.mapM (fun p => slots.idxOf? p) with
    | some i,some ps => match comp slots glob h asg ks with
      | some (asg,ks) => match comp slots glob h body ks with
        | some (body,ks) => some (.rfunc (.var i) ps asg body,ks)
        | none => none
      | none => none
    | _,_ => none
  | _,_ => none
def compRV (slots : List Nat) : ResultVar → Option RV
  | .tmp t => (slots.idxOf? t).map .v
  | .cell a t => match slots.idxOf? a,isAggB P t,sizeB P t with
    | some i,some g,some n => some (.cell i g n)
    | _,_,_ => none
def compFn (slots : List Nat) (keeps : List (List Nat)) (h : Hint) (glob : Nat → Option (List D)) (fn : Func) : Option IFn :=
  match fn.body,fn.results.toList.mapM (compRV P slots) with
  | some c,some res =>
    if slots.Nodup ∧ slots.all (fun t => decide (t < fn.ntmps)) ∧ slots.take (fn.params.size + fn.nfree) = List.range (fn.params.size + fn.nfree) then
      match comp P slots glob { h with nt:=fn.ntmps } c keeps with
      | some (ir,[]) => some { np:=fn.params.size + fn.nfree,nv:=slots.length,slots:=slots,res:=res,body:=ir }
      | _ => none
    else none
  | _,_ => none
end
end Go.Vm

/- The functions of the program,as code of the abstract machine. -/
set_option maxRecDepth 100000
namespace Go.Vm.P4D
open Go Go.Vm
def d3_0 : IR:=(.seq (.region [ ⟨(some 46),none,.bin .lss (.var 45) (.var 44)⟩] none) (.seq (.cond (.var 46) .skip (.exit 0)) (.seq (.block 1 (.seq (.region [ ⟨none,none,.mv (.var 45)⟩,⟨(some 18),none,.mv (.loc 0)⟩] none) (.seq (.region [ ⟨none,none,.load true 4 (.var 4)⟩,⟨none,none,.call .pure (.k (.fn 11 [] [])) [(.loc 0)]⟩,⟨none,none,.mv (.var 18)⟩,⟨none,none,.call .pure (.k (.fn 18 [] [])) [(.loc 1),(.k (.int .i64 0)),(.loc 2)]⟩,⟨none,none,.mv (.loc 3)⟩,⟨none,none,.extract (.loc 4) 0⟩,⟨none,none,.extract (.loc 4) 1⟩,⟨(some 19),none,.alloc [.int .i64 0,.nil,.nil,.nil]⟩,⟨none,none,.store 4 (.var 19) (.loc 5)⟩,⟨(some 20),none,.mv (.loc 6)⟩] none) (.seq (.region [ ⟨none,none,.load true 4 (.var 19)⟩,⟨none,none,.mv (.var 18)⟩,⟨none,none,.call .pure (.k (.fn 18 [] [])) [(.loc 0),(.k (.int .i64 0)),(.loc 1)]⟩,⟨none,none,.mv (.loc 2)⟩,⟨none,none,.extract (.loc 3) 0⟩,⟨none,none,.extract (.loc 3) 1⟩,⟨(some 21),none,.alloc [.int .i64 0,.nil,.nil,.nil]⟩,⟨none,none,.store 4 (.var 21) (.loc 4)⟩,⟨(some 22),none,.mv (.loc 5)⟩] none) (.seq (.region [ ⟨none,none,.mv (.var 20)⟩,⟨none,none,.bin .neq (.loc 0) (.k (.int .i64 0))⟩,⟨none,none,.mv (.loc 1)⟩,⟨none,some (2,false),.mv (.var 22)⟩,⟨none,some (2,false),.bin .neq (.loc 3) (.k (.int .i64 0))⟩,⟨none,none,.pick (.loc 2) (.k (.bool true)) (.loc 4)⟩,⟨none,none,.mv (.loc 5)⟩,⟨none,some (6,false),.load true 4 (.var 21)⟩,⟨none,some (6,false),.load true 4 (.var 9)⟩,⟨none,some (6,false),.call .pure (.k (.fn 16 [] [])) [(.loc 7),(.loc 8)]⟩,⟨none,some (6,false),.un .not (.loc 9)⟩,⟨(some 47),none,.pick (.loc 6) (.k (.bool true)) (.loc 10)⟩] none) (.cond (.var 47) (.seq (.region [ ⟨(some 3),none,.mv (.k (.bool false))⟩] none) .ret) .skip)))))) (.region [ ⟨none,none,.bin .add (.var 45) (.k (.int .i64 1))⟩,⟨(some 45),none,.mv (.loc 0)⟩] none))))
def b3_0 : IR:=d3_0
def d3_1 : IR:=(.seq (.region [ ⟨(some 53),none,.bin .lss (.var 52) (.var 51)⟩] none) (.seq (.cond (.var 53) .skip (.exit 2)) (.seq (.block 3 (.seq (.region [ ⟨none,none,.mv (.var 52)⟩,⟨(some 29),none,.mv (.loc 0)⟩] none) (.seq (.region [ ⟨none,none,.mv (.var 2)⟩,⟨none,none,.mv (.var 29)⟩,⟨none,none,.iaddr none 1 (.loc 0) (.loc 1)⟩,⟨none,none,.load false 1 (.loc 2)⟩,⟨none,none,.bin .lss (.loc 3) (.k (.int .i64 (-1000)))⟩,⟨none,none,.mv (.loc 4)⟩,⟨none,some (5,false),.mv (.var 2)⟩,⟨none,some (5,false),.mv (.var 29)⟩,⟨none,some (5,false),.iaddr none 1 (.loc 6) (.loc 7)⟩,⟨none,some (5,false),.load false 1 (.loc 8)⟩,⟨none,some (5,false),.bin .gtr (.loc 9) (.k (.int .i64 1000))⟩,⟨(some 54),none,.pick (.loc 5) (.k (.bool true)) (.loc 10)⟩] none) (.cond (.var 54) (.seq (.region [ ⟨none,none,.call .pure (.k (.fn 9 [] [])) []⟩,⟨(some 3),none,.mv (.loc 0)⟩] none) .ret) .skip)))) (.region [ ⟨none,none,.bin .add (.var 52) (.k (.int .i64 1))⟩,⟨(some 52),none,.mv (.loc 0)⟩] none))))
def b3_1 : IR:=d3_1
def d3_2 : IR:=(.seq (.region [ ⟨(some 62),none,.bin .lss (.var 61) (.var 60)⟩] none) (.seq (.cond (.var 62) .skip (.exit 6)) (.seq (.block 7 (.seq (.region [ ⟨none,none,.mv (.var 61)⟩,⟨(some 36),none,.mv (.loc 0)⟩] none) (.seq (.region [ ⟨none,none,.mv (.var 2)⟩,⟨none,none,.call .imp (.k (.fn 23 [] [])) [(.loc 0)]⟩,⟨(some 37),none,.mv (.loc 1)⟩] none) (.seq (.region [ ⟨none,none,.mv (.var 37)⟩,⟨none,none,.mv (.var 36)⟩,⟨none,none,.iaddr none 1 (.loc 0) (.loc 1)⟩,⟨none,none,.load false 1 (.loc 2)⟩,⟨none,none,.faddr 1 (.var 4)⟩,⟨none,none,.load false 1 (.loc 4)⟩,⟨none,none,.mv (.var 36)⟩,⟨none,none,.iaddr none 2 (.loc 5) (.loc 6)⟩,⟨none,none,.faddr 1 (.loc 7)⟩,⟨none,none,.load false 1 (.loc 8)⟩,⟨none,none,.mv (.var 31)⟩,⟨none,none,.bin .mul (.loc 9) (.loc 10)⟩,⟨none,none,.bin .add (.loc 3) (.loc 11)⟩,⟨none,none,.iaddr none 1 (.loc 0) (.loc 1)⟩,⟨none,none,.store 1 (.loc 13) (.loc 12)⟩] (some (14,[]))) (.seq (.region [ ⟨none,none,.load true 4 (.var 4)⟩,⟨none,none,.call .pure (.k (.fn 11 [] [])) [(.loc 0)]⟩,⟨none,none,.mv (.var 31)⟩,⟨none,none,.mv (.var 37)⟩,⟨none,none,.build [.int .i64 0,.int .u64 0] []⟩,⟨none,none,.call .pure (.k (.fn 22 [] [])) [(.loc 1),(.loc 2),(.loc 3),(.loc 4)]⟩,⟨none,none,.mv (.loc 5)⟩,⟨none,none,.extract (.loc 6) 0⟩,⟨none,none,.extract (.loc 6) 1⟩,⟨(some 38),none,.alloc [.int .i64 0,.int .u64 0]⟩,⟨none,none,.store 2 (.var 38) (.loc 7)⟩,⟨(some 39),none,.mv (.loc 8)⟩] none) (.seq (.region [ ⟨none,none,.mv (.var 37)⟩,⟨none,none,.mv (.var 36)⟩,⟨none,none,.iaddr none 1 (.loc 0) (.loc 1)⟩,⟨none,none,.load false 1 (.loc 2)⟩,⟨none,none,.bin .leq (.loc 3) (.k (.int .i64 1048576))⟩,⟨none,none,.mv (.loc 4)⟩,⟨none,some (5,true),.mv (.var 39)⟩,⟨none,some (5,true),.bin .neq (.loc 6) (.k (.int .i64 0))⟩,⟨none,some (5,true),.mv (.loc 7)⟩,⟨none,some (8,false),.load true 2 (.var 38)⟩,⟨none,some (8,false),.load true 2 (.var 32)⟩,⟨none,some (8,false),.eqs true (.agg [(0,.int),(1,.int)]) (.loc 9) (.loc 10)⟩,⟨none,some (5,true),.pick (.loc 8) (.k (.bool true)) (.loc 11)⟩,⟨(some 63),none,.pick (.loc 5) (.loc 12) (.k (.bool false))⟩] none) (.cond (.var 63) (.seq (.region [ ⟨(some 3),none,.mv (.k (.bool false))⟩] none) .ret) .skip))))))) (.region [ ⟨none,none,.bin .add (.var 61) (.k (.int .i64 1))⟩,⟨(some 61),none,.mv (.loc 0)⟩] none))))
def b3_2 : IR:=d3_2
def d3_3 : IR:=(.seq (.seq (.region [ ⟨none,none,.mv (.var 31)⟩,⟨(some 55),none,.bin .leq (.loc 0) (.k (.int .i64 2))⟩] none) (.cond (.var 55) .skip (.exit 4))) (.seq (.block 5 (.seq (.region [ ⟨none,none,.load true 4 (.var 4)⟩,⟨none,none,.call .pure (.k (.fn 11 [] [])) [(.loc 0)]⟩,⟨none,none,.mv (.var 31)⟩,⟨none,none,.mv (.var 2)⟩,⟨none,none,.call .imp (.k (.fn 23 [] [])) [(.loc 3)]⟩,⟨none,none,.build [.int .i64 0,.int .u64 0] []⟩,⟨none,none,.call .pure (.k (.fn 22 [] [])) [(.loc 1),(.loc 2),(.loc 4),(.loc 5)]⟩,⟨none,none,.mv (.loc 6)⟩,⟨none,none,.extract (.loc 7) 0⟩,⟨none,none,.extract (.loc 7) 1⟩,⟨(some 32),none,.alloc [.int .i64 0,.int .u64 0]⟩,⟨none,none,.store 2 (.var 32) (.loc 8)⟩,⟨(some 33),none,.mv (.loc 9)⟩] none) (.seq (.seq (.region [ ⟨none,none,.mv (.var 33)⟩,⟨(some 56),none,.bin .neq (.loc 0) (.k (.int .i64 0))⟩] none) (.cond (.var 56) (.seq (.region [ ⟨(some 3),none,.mv (.k (.bool false))⟩] none) .ret) .skip)) (.seq (.seq (.region [ ⟨(some 57),none,.mv (.var 30)⟩] none) (.cond (.var 57) (.seq (.region [ ⟨none,none,.load true 4 (.var 4)⟩,⟨none,none,.call .pure (.k (.fn 11 [] [])) [(.loc 0)]⟩,⟨none,none,.mv (.var 2)⟩,⟨none,none,.call .imp (.k (.fn 23 [] [])) [(.loc 2)]⟩,⟨none,none,.call .pure (.k (.fn 24 [] [])) [(.loc 1),(.loc 3)]⟩,⟨none,none,.mv (.loc 4)⟩,⟨none,none,.extract (.loc 5) 0⟩,⟨none,none,.extract (.loc 5) 1⟩,⟨(some 34),none,.alloc [.int .i64 0,.int .u64 0]⟩,⟨none,none,.store 2 (.var 34) (.loc 6)⟩,⟨(some 35),none,.mv (.loc 7)⟩] none) (.seq (.region [ ⟨none,none,.mv (.var 35)⟩,⟨none,none,.bin .neq (.loc 0) (.k (.int .i64 0))⟩,⟨none,none,.mv (.loc 1)⟩,⟨none,some (2,false),.load true 2 (.var 34)⟩,⟨none,some (2,false),.load true 2 (.var 32)⟩,⟨none,some (2,false),.eqs true (.agg [(0,.int),(1,.int)]) (.loc 3) (.loc 4)⟩,⟨(some 58),none,.pick (.loc 2) (.k (.bool true)) (.loc 5)⟩] none) (.cond (.var 58) (.seq (.region [ ⟨(some 3),none,.mv (.k (.bool false))⟩] none) .ret) .skip))) .skip)) (.seq (.seq (.region [ ⟨none,none,.mv (.var 31)⟩,⟨(some 59),none,.bin .eql (.loc 0) (.k (.int .i64 0))⟩] none) (.cond (.var 59) (.exit 5) .skip)) (.seq (.region [ ⟨none,none,.mv (.var 2)⟩,⟨(some 60),none,.len .sl (.loc 0)⟩,⟨(some 61),none,.mv (.k (.int .i64 0))⟩] none) (.block 6 (.loop [0,0,1,0,1,0,0,0,0,0,0,0,0,0,0,0,0,0,0,0,0,0,0,0,0,0,0,0,0,0,1,1,1,0,0,0,0,0,0,0,0,0,0,0,0,0,0,0,0,0,0,0,0,0,0,0,0,0,0,0,1,1,0,0] [0,0,1,1,1,0,0,0,0,0,0,0,0,0,0,0,0,0,0,0,0,0,0,0,0,0,0,0,0,0,1,1,0,0,0,0,0,0,0,0,0,0,0,0,0,0,0,0,0,0,0,0,0,0,0,0,0,0,0,0,0,0,0,0] b3_2)))))))) (.region [ ⟨none,none,.mv (.var 31)⟩,⟨none,none,.bin .add (.loc 0) (.k (.int .i64 1))⟩,⟨(some 31),none,.mv (.loc 1)⟩] none)))
def b3_3 : IR:=d3_3
def c3 : IR:=(.seq (.region [ ⟨(some 4),none,.box (.var 0)⟩,⟨(some 3),none,.mv (.k (.bool false))⟩] none) (.seq (.seq (.region [ ⟨none,none,.load true 4 (.var 4)⟩,⟨none,none,.call .pure (.k (.fn 7 [] [])) [(.loc 0)]⟩,⟨none,none,.un .not (.loc 1)⟩,⟨none,none,.mv (.loc 2)⟩,⟨none,some (3,false),.mv (.var 1)⟩,⟨none,some (3,false),.call .pure (.k (.fn 8 [] [])) [(.loc 4)]⟩,⟨none,some (3,false),.un .not (.loc 5)⟩,⟨none,none,.pick (.loc 3) (.k (.bool true)) (.loc 6)⟩,⟨none,none,.mv (.loc 7)⟩,⟨none,some (8,false),.mv (.var 2)⟩,⟨none,some (8,false),.len .sl (.loc 9)⟩,⟨none,some (8,false),.bin .gtr (.loc 10) (.k (.int .i64 5))⟩,⟨(some 40),none,.pick (.loc 8) (.k (.bool true)) (.loc 11)⟩] none) (.cond (.var 40) (.seq (.region [ ⟨none,none,.call .pure (.k (.fn 9 [] [])) []⟩,⟨(some 3),none,.mv (.loc 0)⟩] none) .ret) .skip)) (.seq (.region [ ⟨none,none,.load true 4 (.var 4)⟩,⟨none,none,.call .pure (.k (.fn 11 [] [])) [(.loc 0)]⟩,⟨none,none,.call .pure (.k (.fn 10 [] [])) [(.loc 1)]⟩,⟨none,none,.mv (.loc 2)⟩,⟨none,none,.extract (.loc 3) 0⟩,⟨none,none,.extract (.loc 3) 1⟩,⟨(some 5),none,.mv (.loc 4)⟩,⟨(some 6),none,.mv (.loc 5)⟩] none) (.seq (.seq (.region [ ⟨none,none,.mv (.var 6)⟩,⟨(some 41),none,.bin .neq (.loc 0) (.k (.int .i64 0))⟩] none) (.cond (.var 41) (.seq (.region [ ⟨none,none,.call .pure (.k (.fn 9 [] [])) []⟩,⟨(some 3),none,.mv (.loc 0)⟩] none) .ret) .skip)) (.seq (.region [ ⟨none,none,.bslice false 1 [.int .u8 0] 0 []⟩,⟨none,none,.mv (.var 5)⟩,⟨none,none,.append 1 1 (.loc 0) (.loc 1)⟩,⟨none,none,.call .pure (.k (.fn 12 [] [])) [(.loc 2)]⟩,⟨none,none,.mv (.loc 3)⟩,⟨none,none,.extract (.loc 4) 0⟩,⟨none,none,.extract (.loc 4) 1⟩,⟨(some 7),none,.alloc [.int .i64 0,.nil,.nil,.nil]⟩,⟨none,none,.store 4 (.var 7) (.loc 5)⟩,⟨(some 8),none,.mv (.loc 6)⟩] none) (.seq (.region [ ⟨none,none,.load true 4 (.var 4)⟩,⟨none,none,.call .pure (.k (.fn 11 [] [])) [(.loc 0)]⟩,⟨none,none,.call .pure (.k (.fn 13 [] [])) [(.loc 1)]⟩,⟨none,none,.mv (.loc 2)⟩,⟨none,none,.extract (.loc 3) 0⟩,⟨none,none,.extract (.loc 3) 1⟩,⟨(some 9),none,.alloc [.int .i64 0,.nil,.nil,.nil]⟩,⟨none,none,.store 4 (.var 9) (.loc 4)⟩,⟨(some 10),none,.mv (.loc 5)⟩] none) (.seq (.region [ ⟨none,none,.load true 4 (.var 7)⟩,⟨none,none,.call .pure (.k (.fn 11 [] [])) [(.loc 0)]⟩,⟨none,none,.load true 4 (.var 4)⟩,⟨none,none,.call .pure (.k (.fn 11 [] [])) [(.loc 2)]⟩,⟨none,none,.call .pure (.k (.fn 14 [] [])) [(.loc 1),(.loc 3)]⟩,⟨none,none,.mv (.loc 4)⟩,⟨none,none,.extract (.loc 5) 0⟩,⟨none,none,.extract (.loc 5) 1⟩,⟨(some 11),none,.mv (.loc 6)⟩,⟨(some 12),none,.mv (.loc 7)⟩] (some (10,[]))) (.seq (.region [ ⟨none,none,.load true 4 (.var 4)⟩,⟨none,none,.call .pure (.k (.fn 11 [] [])) [(.loc 0)]⟩,⟨none,none,.call .pure (.k (.fn 15 [] [])) [(.loc 1)]⟩,⟨none,none,.mv (.loc 2)⟩,⟨none,none,.extract (.loc 3) 0⟩,⟨none,none,.extract (.loc 3) 1⟩,⟨(some 13),none,.mv (.loc 4)⟩,⟨(some 14),none,.mv (.loc 5)⟩] none) (.seq (.region [ ⟨none,none,.load true 4 (.var 7)⟩,⟨none,none,.call .pure (.k (.fn 11 [] [])) [(.loc 0)]⟩,⟨none,none,.call .pure (.k (.fn 15 [] [])) [(.loc 1)]⟩,⟨none,none,.mv (.loc 2)⟩,⟨none,none,.extract (.loc 3) 0⟩,⟨none,none,.extract (.loc 3) 1⟩,⟨(some 15),none,.mv (.loc 4)⟩,⟨(some 16),none,.mv (.loc 5)⟩] none) (.seq (.seq (.region [ ⟨none,none,.mv (.var 8)⟩,⟨none,none,.mv (.var 10)⟩,⟨none,none,.bin .add (.loc 0) (.loc 1)⟩,⟨none,none,.mv (.var 12)⟩,⟨none,none,.bin .add (.loc 2) (.loc 3)⟩,⟨none,none,.mv (.var 14)⟩,⟨none,none,.bin .add (.loc 4) (.loc 5)⟩,⟨none,none,.mv (.var 16)⟩,⟨none,none,.bin .add (.loc 6) (.loc 7)⟩,⟨none,none,.bin .neq (.loc 8) (.k (.int .i64 0))⟩,⟨none,none,.mv (.loc 9)⟩,⟨none,some (10,false),.mv (.var 11)⟩,⟨none,some (10,false),.un .not (.loc 11)⟩,⟨none,none,.pick (.loc 10) (.k (.bool true)) (.loc 12)⟩,⟨none,none,.mv (.loc 13)⟩,⟨none,some (14,false),.mv (.var 13)⟩,⟨none,some (14,false),.mv (.var 15)⟩,⟨none,some (14,false),.bin .neq (.loc 15) (.loc 16)⟩,⟨none,none,.pick (.loc 14) (.k (.bool true)) (.loc 17)⟩,⟨none,none,.mv (.loc 18)⟩,⟨none,some (19,false),.load true 4 (.var 7)⟩,⟨none,some (19,false),.load true 4 (.var 9)⟩,⟨none,some (19,false),.call .pure (.k (.fn 16 [] [])) [(.loc 20),(.loc 21)]⟩,⟨none,some (19,false),.un .not (.loc 22)⟩,⟨(some 42),none,.pick (.loc 19) (.k (.bool true)) (.loc 23)⟩] none) (.cond (.var 42) (.seq (.region [ ⟨(some 3),none,.mv (.k (.bool false))⟩] none) .ret) .skip)) (.seq (.seq (.region [ ⟨none,none,.bslice false 1 [.int .u8 0] 0 []⟩,⟨none,none,.mv (.var 5)⟩,⟨none,none,.mv (.var 5)⟩,⟨none,none,.len .sl (.loc 2)⟩,⟨none,none,.bin .sub (.loc 3) (.k (.int .i64 1))⟩,⟨none,none,.slice none 1 (.loc 1) none (some (.loc 4)) none⟩,⟨none,none,.append 1 1 (.loc 0) (.loc 5)⟩,⟨none,none,.call .pure (.k (.fn 12 [] [])) [(.loc 6)]⟩,⟨none,none,.mv (.loc 7)⟩,⟨none,none,.extract (.loc 8) 0⟩,⟨none,none,.extract (.loc 8) 1⟩,⟨none,none,.alloc [.int .i64 0,.nil,.nil,.nil]⟩,⟨none,none,.store 4 (.loc 11) (.loc 9)⟩,⟨(some 17),none,.mv (.loc 10)⟩] none) (.seq (.region [ ⟨none,none,.mv (.var 17)⟩,⟨none,none,.bin .neq (.loc 0) (.k (.int .i64 24))⟩,⟨none,none,.mv (.loc 1)⟩,⟨none,some (2,true),.faddr 1 (.var 4)⟩,⟨none,some (2,true),.load false 1 (.loc 3)⟩,⟨none,some (2,true),.call .pure (.k (.fn 17 [] [])) [(.loc 4)]⟩,⟨none,some (2,true),.bin .gtr (.loc 5) (.k (.int .i64 0))⟩,⟨(some 43),none,.pick (.loc 2) (.loc 6) (.k (.bool false))⟩] none) (.cond (.var 43) (.seq (.region [ ⟨(some 3),none,.mv (.k (.bool false))⟩] none) .ret) .skip))) (.seq (.seq (.region [ ⟨none,none,.faddr 1 (.var 4)⟩,⟨none,none,.load false 1 (.loc 0)⟩,⟨(some 44),none,.len .sl (.loc 1)⟩,⟨(some 45),none,.mv (.k (.int .i64 0))⟩] none) (.block 0 (.loop [0,1,1,0,1,0,0,0,0,1,0,0,0,0,0,0,0,0,0,0,0,0,0,0,0,0,0,0,0,0,0,0,0,0,0,0,0,0,0,0,0,0,0,0,1,1,0,0,0,0,0,0,0,0,0,0,0,0,0,0,0,0,0,0] [0,1,1,1,1,0,0,0,0,0,0,0,0,0,0,0,0,0,0,0,0,0,0,0,0,0,0,0,0,0,0,0,0,0,0,0,0,0,0,0,0,0,0,0,0,0,0,0,0,0,0,0,0,0,0,0,0,0,0,0,0,0,0,0] b3_0))) (.seq (.seq (.region [ ⟨none,none,.load true 4 (.var 4)⟩,⟨none,none,.call .pure (.k (.fn 11 [] [])) [(.loc 0)]⟩,⟨none,none,.mv (.var 1)⟩,⟨none,none,.call .pure (.k (.fn 20 [] [])) [(.loc 2)]⟩,⟨none,none,.call .pure (.k (.fn 19 [] [])) [(.loc 1),(.loc 3)]⟩,⟨none,none,.mv (.loc 4)⟩,⟨none,none,.extract (.loc 5) 0⟩,⟨none,none,.extract (.loc 5) 1⟩,⟨(some 23),none,.alloc [.int .i64 0,.nil,.nil,.nil]⟩,⟨none,none,.store 4 (.var 23) (.loc 6)⟩,⟨(some 24),none,.mv (.loc 7)⟩] none) (.seq (.region [ ⟨none,none,.mv (.var 24)⟩,⟨(some 48),none,.bin .eql (.loc 0) (.k (.int .i64 0))⟩] none) (.cond (.var 48) (.seq (.region [ ⟨none,none,.load true 4 (.var 4)⟩,⟨none,none,.call .pure (.k (.fn 11 [] [])) [(.loc 0)]⟩,⟨none,none,.faddr 1 (.var 4)⟩,⟨none,none,.load false 1 (.loc 2)⟩,⟨none,none,.call .pure (.k (.fn 20 [] [])) [(.loc 3)]⟩,⟨none,none,.call .pure (.k (.fn 19 [] [])) [(.loc 1),(.loc 4)]⟩,⟨none,none,.mv (.loc 5)⟩,⟨none,none,.extract (.loc 6) 0⟩,⟨none,none,.extract (.loc 6) 1⟩,⟨(some 25),none,.alloc [.int .i64 0,.nil,.nil,.nil]⟩,⟨none,none,.store 4 (.var 25) (.loc 7)⟩,⟨(some 26),none,.mv (.loc 8)⟩] (some (10,[8]))) (.seq (.region [ ⟨none,none,.load true 4 (.var 25)⟩,⟨none,none,.mv (.var 1)⟩,⟨none,none,.call .pure (.k (.fn 20 [] [])) [(.loc 1)]⟩,⟨none,none,.call .pure (.k (.fn 19 [] [])) [(.loc 0),(.loc 2)]⟩,⟨none,none,.mv (.loc 3)⟩,⟨none,none,.extract (.loc 4) 0⟩,⟨none,none,.extract (.loc 4) 1⟩,⟨(some 27),none,.alloc [.int .i64 0,.nil,.nil,.nil]⟩,⟨none,none,.store 4 (.var 27) (.loc 5)⟩,⟨(some 28),none,.mv (.loc 6)⟩] (some (8,[6]))) (.seq (.region [ ⟨none,none,.mv (.var 26)⟩,⟨none,none,.bin .neq (.loc 0) (.k (.int .i64 0))⟩,⟨none,none,.mv (.loc 1)⟩,⟨none,some (2,false),.mv (.var 28)⟩,⟨none,some (2,false),.bin .neq (.loc 3) (.k (.int .i64 0))⟩,⟨none,none,.pick (.loc 2) (.k (.bool true)) (.loc 4)⟩,⟨none,none,.mv (.loc 5)⟩,⟨none,some (6,false),.load true 4 (.var 23)⟩,⟨none,some (6,false),.load true 4 (.var 27)⟩,⟨none,some (6,false),.call .pure (.k (.fn 16 [] [])) [(.loc 7),(.loc 8)]⟩,⟨none,some (6,false),.un .not (.loc 9)⟩,⟨(some 49),none,.pick (.loc 6) (.k (.bool true)) (.loc 10)⟩] none) (.cond (.var 49) (.seq (.region [ ⟨(some 3),none,.mv (.k (.bool false))⟩] none) .ret) .skip)))) .skip))) (.seq (.seq (.region [ ⟨none,none,.mv (.var 2)⟩,⟨none,none,.len .sl (.loc 0)⟩,⟨none,none,.faddr 1 (.var 4)⟩,⟨none,none,.load false 1 (.loc 2)⟩,⟨none,none,.len .sl (.loc 3)⟩,⟨none,none,.bin .neq (.loc 1) (.loc 4)⟩,⟨none,none,.mv (.loc 5)⟩,⟨none,some (6,false),.faddr 1 (.var 4)⟩,⟨none,some (6,false),.load false 1 (.loc 7)⟩,⟨none,some (6,false),.call .pure (.k (.fn 17 [] [])) [(.loc 8)]⟩,⟨none,some (6,false),.bin .eql (.loc 9) (.k (.int .i64 0))⟩,⟨(some 50),none,.pick (.loc 6) (.k (.bool true)) (.loc 10)⟩] none) (.cond (.var 50) (.seq (.region [ ⟨none,none,.call .pure (.k (.fn 9 [] [])) []⟩,⟨(some 3),none,.mv (.loc 0)⟩] none) .ret) .skip)) (.seq (.seq (.region [ ⟨none,none,.mv (.var 2)⟩,⟨(some 51),none,.len .sl (.loc 0)⟩,⟨(some 52),none,.mv (.k (.int .i64 0))⟩] none) (.block 2 (.loop [0,0,1,0,1,0,0,0,0,0,0,0,0,0,0,0,0,0,0,0,0,0,0,0,0,0,0,0,0,0,0,0,0,0,0,0,0,0,0,0,0,0,0,0,0,0,0,0,0,0,0,1,1,0,0,0,0,0,0,0,0,0,0,0] [0,0,1,1,1,0,0,0,0,0,0,0,0,0,0,0,0,0,0,0,0,0,0,0,0,0,0,0,0,0,0,0,0,0,0,0,0,0,0,0,0,0,0,0,0,0,0,0,0,0,0,0,0,0,0,0,0,0,0,0,0,0,0,0] b3_1))) (.seq (.region [ ⟨none,none,.faddr 1 (.var 4)⟩,⟨none,none,.load false 1 (.loc 0)⟩,⟨none,none,.mv (.var 2)⟩,⟨none,none,.call .pure (.k (.fn 21 [] [])) [(.loc 1),(.loc 2)]⟩,⟨(some 30),none,.mv (.loc 3)⟩] none) (.seq (.seq (.region [ ⟨(some 31),none,.mv (.k (.int .i64 0))⟩] none) (.block 4 (.loop [0,0,1,0,1,0,0,0,0,0,0,0,0,0,0,0,0,0,0,0,0,0,0,0,0,0,0,0,0,0,1,1,0,0,0,0,0,0,0,0,0,0,0,0,0,0,0,0,0,0,0,0,0,0,0,0,0,0,0,0,0,0,0,0] [0,0,0,1,0,0,0,0,0,0,0,0,0,0,0,0,0,0,0,0,0,0,0,0,0,0,0,0,0,0,0,0,0,0,0,0,0,0,0,0,0,0,0,0,0,0,0,0,0,0,0,0,0,0,0,0,0,0,0,0,0,0,0,0] b3_3))) (.seq (.region [ ⟨none,none,.call .pure (.k (.fn 9 [] [])) []⟩,⟨(some 3),none,.mv (.loc 0)⟩] none) .ret))))))))))))))))))
def ir3 : IFn:={ np:=3,nv:=64,slots:=[0,1,2,6,3,7,8,9,10,11,12,13,14,15,16,17,18,20,21,22,23,24,25,26,27,28,29,30,31,32,33,34,35,36,37,38,39,40,41,42,55,64,123,142,145,146,147,173,184,212,224,227,228,229,242,250,264,265,280,282,284,285,286,326],res:=[.v 3],body:=c3 }
def ks3 : List (List Nat):=[[0,1,1,0,1,0,0,0,0,1,0,0,0,0,0,0,0,0,0,0,0,0,0,0,0,0,0,0,0,0,0,0,0,0,0,0,0,0,0,0,0,0,0,0,1,1,0,0,0,0,0,0,0,0,0,0,0,0,0,0,0,0,0,0],[0,1,1,1,1,0,0,0,0,0,0,0,0,0,0,0,0,0,0,0,0,0,0,0,0,0,0,0,0,0,0,0,0,0,0,0,0,0,0,0,0,0,0,0,0,0,0,0,0,0,0,0,0,0,0,0,0,0,0,0,0,0,0,0],[0,0,1,0,1,0,0,0,0,0,0,0,0,0,0,0,0,0,0,0,0,0,0,0,0,0,0,0,0,0,0,0,0,0,0,0,0,0,0,0,0,0,0,0,0,0,0,0,0,0,0,1,1,0,0,0,0,0,0,0,0,0,0,0],[0,0,1,1,1,0,0,0,0,0,0,0,0,0,0,0,0,0,0,0,0,0,0,0,0,0,0,0,0,0,0,0,0,0,0,0,0,0,0,0,0,0,0,0,0,0,0,0,0,0,0,0,0,0,0,0,0,0,0,0,0,0,0,0],[0,0,1,0,1,0,0,0,0,0,0,0,0,0,0,0,0,0,0,0,0,0,0,0,0,0,0,0,0,0,1,1,0,0,0,0,0,0,0,0,0,0,0,0,0,0,0,0,0,0,0,0,0,0,0,0,0,0,0,0,0,0,0,0],[0,0,0,1,0,0,0,0,0,0,0,0,0,0,0,0,0,0,0,0,0,0,0,0,0,0,0,0,0,0,0,0,0,0,0,0,0,0,0,0,0,0,0,0,0,0,0,0,0,0,0,0,0,0,0,0,0,0,0,0,0,0,0,0],[0,0,1,0,1,0,0,0,0,0,0,0,0,0,0,0,0,0,0,0,0,0,0,0,0,0,0,0,0,0,1,1,1,0,0,0,0,0,0,0,0,0,0,0,0,0,0,0,0,0,0,0,0,0,0,0,0,0,0,0,1,1,0,0],[0,0,1,1,1,0,0,0,0,0,0,0,0,0,0,0,0,0,0,0,0,0,0,0,0,0,0,0,0,0,1,1,0,0,0,0,0,0,0,0,0,0,0,0,0,0,0,0,0,0,0,0,0,0,0,0,0,0,0,0,0,0,0,0]]
def hi3 : Hint:={ own:=false,fb:=false,dyn:=.pure,md:=[(23,.imp)] }
def d7_0 : IR:=(.seq (.seq (.region [ ⟨none,none,.mv (.var 4)⟩,⟨none,none,.faddr 1 (.var 2)⟩,⟨none,none,.load false 1 (.loc 1)⟩,⟨none,none,.len .sl (.loc 2)⟩,⟨none,none,.bin .lss (.loc 0) (.loc 3)⟩,⟨none,none,.mv (.loc 4)⟩,⟨none,some (5,true),.mv (.var 4)⟩,⟨none,some (5,true),.bin .lss (.loc 6) (.k (.int .i64 4))⟩,⟨(some 5),none,.pick (.loc 5) (.loc 7) (.k (.bool false))⟩] none) (.cond (.var 5) .skip (.exit 0))) (.seq (.block 1 (.region [ ⟨none,none,.mv (.var 3)⟩,⟨none,none,.faddr 1 (.var 2)⟩,⟨none,none,.load false 1 (.loc 1)⟩,⟨none,none,.mv (.var 4)⟩,⟨none,none,.iaddr none 2 (.loc 2) (.loc 3)⟩,⟨none,none,.faddr 1 (.loc 4)⟩,⟨none,none,.load false 1 (.loc 5)⟩,⟨none,none,.mnmx true (.loc 6) (.k (.int .i64 200))⟩,⟨none,none,.mnmx false (.k (.int .i64 0)) (.loc 7)⟩,⟨none,none,.bin .mul (.loc 0) (.loc 8)⟩,⟨(some 3),none,.mv (.loc 9)⟩] none)) (.region [ ⟨none,none,.mv (.var 4)⟩,⟨none,none,.bin .add (.loc 0) (.k (.int .i64 1))⟩,⟨(some 4),none,.mv (.loc 1)⟩] none)))
def b7_0 : IR:=d7_0
def c7 : IR:=(.seq (.region [ ⟨(some 2),none,.boxi (.var 0)⟩,⟨(some 1),none,.mv (.k (.bool false))⟩] none) (.seq (.region [ ⟨(some 3),none,.mv (.k (.int .i64 1))⟩] none) (.seq (.seq (.region [ ⟨(some 4),none,.mv (.k (.int .i64 0))⟩] none) (.block 0 (.loop [0,0,1,1,1,0] [0,0,1,1,0,0] b7_0))) (.seq (.region [ ⟨none,none,.faddr 1 (.var 2)⟩,⟨none,none,.load false 1 (.loc 0)⟩,⟨none,none,.len .sl (.loc 1)⟩,⟨none,none,.bin .leq (.loc 2) (.k (.int .i64 4))⟩,⟨none,none,.mv (.loc 3)⟩,⟨none,some (4,true),.faddr 2 (.var 2)⟩,⟨none,some (4,true),.load false 1 (.loc 5)⟩,⟨none,some (4,true),.len .sl (.loc 6)⟩,⟨none,some (4,true),.bin .leq (.loc 7) (.k (.int .i64 5))⟩,⟨none,none,.pick (.loc 4) (.loc 8) (.k (.bool false))⟩,⟨none,none,.mv (.loc 9)⟩,⟨none,some (10,true),.mv (.var 3)⟩,⟨none,some (10,true),.bin .leq (.loc 11) (.k (.int .i64 100))⟩,⟨none,none,.pick (.loc 10) (.loc 12) (.k (.bool false))⟩,⟨none,none,.mv (.loc 13)⟩,⟨none,some (14,true),.faddr 3 (.var 2)⟩,⟨none,some (14,true),.load false 1 (.loc 15)⟩,⟨none,some (14,true),.len .sl (.loc 16)⟩,⟨none,some (14,true),.bin .leq (.loc 17) (.k (.int .i64 200))⟩,⟨none,none,.pick (.loc 14) (.loc 18) (.k (.bool false))⟩,⟨(some 1),none,.mv (.loc 19)⟩] none) .ret))))
def ir7 : IFn:={ np:=1,nv:=6,slots:=[0,2,1,3,4,13],res:=[.v 1],body:=c7 }
def ks7 : List (List Nat):=[[0,0,1,1,1,0],[0,0,1,1,0,0]]
def hi7 : Hint:={ own:=false,fb:=true,dyn:=.pure,md:=[] }
def d8_0 : IR:=(.seq (.seq (.region [ ⟨none,none,.mv (.var 3)⟩,⟨none,none,.mv (.var 0)⟩,⟨none,none,.len .sl (.loc 1)⟩,⟨none,none,.bin .lss (.loc 0) (.loc 2)⟩,⟨none,none,.mv (.loc 3)⟩,⟨none,some (4,true),.mv (.var 3)⟩,⟨none,some (4,true),.bin .lss (.loc 5) (.k (.int .i64 4))⟩,⟨(some 4),none,.pick (.loc 4) (.loc 6) (.k (.bool false))⟩] none) (.cond (.var 4) .skip (.exit 0))) (.seq (.block 1 (.region [ ⟨none,none,.mv (.var 2)⟩,⟨none,none,.mv (.var 0)⟩,⟨none,none,.mv (.var 3)⟩,⟨none,none,.iaddr none 2 (.loc 1) (.loc 2)⟩,⟨none,none,.faddr 1 (.loc 3)⟩,⟨none,none,.load false 1 (.loc 4)⟩,⟨none,none,.mnmx true (.loc 5) (.k (.int .i64 100))⟩,⟨none,none,.mnmx false (.k (.int .i64 0)) (.loc 6)⟩,⟨none,none,.bin .mul (.loc 0) (.loc 7)⟩,⟨(some 2),none,.mv (.loc 8)⟩] none)) (.region [ ⟨none,none,.mv (.var 3)⟩,⟨none,none,.bin .add (.loc 0) (.k (.int .i64 1))⟩,⟨(some 3),none,.mv (.loc 1)⟩] none)))
def b8_0 : IR:=d8_0
def c8 : IR:=(.seq (.region [ ⟨(some 1),none,.mv (.k (.bool false))⟩] none) (.seq (.region [ ⟨(some 2),none,.mv (.k (.int .i64 1))⟩] none) (.seq (.seq (.region [ ⟨(some 3),none,.mv (.k (.int .i64 0))⟩] none) (.block 0 (.loop [1,0,1,1,0] [1,0,1,0,0] b8_0))) (.seq (.region [ ⟨none,none,.mv (.var 0)⟩,⟨none,none,.len .sl (.loc 0)⟩,⟨none,none,.bin .leq (.loc 1) (.k (.int .i64 4))⟩,⟨none,none,.mv (.loc 2)⟩,⟨none,some (3,true),.mv (.var 2)⟩,⟨none,some (3,true),.bin .leq (.loc 4) (.k (.int .i64 64))⟩,⟨none,none,.pick (.loc 3) (.loc 5) (.k (.bool false))⟩,⟨(some 1),none,.mv (.loc 6)⟩] none) .ret))))
def ir8 : IFn:={ np:=1,nv:=5,slots:=[0,2,3,4,12],res:=[.v 1],body:=c8 }
def ks8 : List (List Nat):=[[1,0,1,1,0],[1,0,1,0,0]]
def hi8 : Hint:={ own:=false,fb:=false,dyn:=.pure,md:=[] }
def d9_0 : IR:=(.seq (.region [ ⟨(some 30),none,.bin .lss (.var 29) (.var 28)⟩] none) (.seq (.cond (.var 30) .skip (.exit 0)) (.seq (.block 1 (.seq (.region [ ⟨none,none,.mv (.var 29)⟩,⟨none,none,.iaddr none 1 (.var 27) (.var 29)⟩,⟨none,none,.load false 1 (.loc 1)⟩,⟨(some 18),none,.mv (.loc 0)⟩,⟨(some 19),none,.mv (.loc 2)⟩] none) (.seq (.region [ ⟨none,none,.call .pure (.k (.fn 45 [] [])) []⟩,⟨none,none,.mv (.var 18)⟩,⟨none,none,.bslice false 1 [.int .i64 0] 2 [(0,(.k (.int .i64 0))),(1,(.k (.int .i64 5)))]⟩,⟨none,none,.build [.int .i64 0,.int .u64 0] []⟩,⟨none,none,.call .pure (.k (.fn 22 [] [])) [(.loc 0),(.loc 1),(.loc 2),(.loc 3)]⟩,⟨none,none,.mv (.loc 4)⟩,⟨none,none,.extract (.loc 5) 0⟩,⟨none,none,.extract (.loc 5) 1⟩,⟨(some 20),none,.alloc [.int .i64 0,.int .u64 0]⟩,⟨none,none,.store 2 (.var 20) (.loc 6)⟩,⟨(some 21),none,.mv (.loc 7)⟩] none) (.seq (.region [ ⟨none,none,.mv (.var 21)⟩,⟨none,none,.bin .neq (.loc 0) (.k (.int .i64 0))⟩,⟨none,none,.mv (.loc 1)⟩,⟨none,some (2,false),.faddr 1 (.var 20)⟩,⟨none,some (2,false),.load false 1 (.loc 3)⟩,⟨none,some (2,false),.mv (.var 19)⟩,⟨none,some (2,false),.bin .neq (.loc 4) (.loc 5)⟩,⟨(some 31),none,.pick (.loc 2) (.k (.bool true)) (.loc 6)⟩] none) (.cond (.var 31) (.seq (.region [ ⟨(some 0),none,.mv (.k (.bool false))⟩] none) .ret) .skip))))) (.region [ ⟨none,none,.bin .add (.var 29) (.k (.int .i64 1))⟩,⟨(some 29),none,.mv (.loc 0)⟩] none))))
def b9_0 : IR:=d9_0
def c9 : IR:=(.seq (.region [ ⟨(some 0),none,.mv (.k (.bool false))⟩] none) (.seq (.region [ ⟨none,none,.call .pure (.k (.fn 44 [] [])) []⟩,⟨none,none,.call .pure (.k (.fn 34 [] [])) [(.loc 0)]⟩,⟨none,none,.mv (.loc 1)⟩,⟨none,none,.extract (.loc 2) 0⟩,⟨none,none,.extract (.loc 2) 1⟩,⟨(some 1),none,.mv (.loc 3)⟩,⟨(some 2),none,.mv (.loc 4)⟩] none) (.seq (.region [ ⟨none,none,.call .pure (.k (.fn 44 [] [])) []⟩,⟨none,none,.bslice false 1 [.int .i64 0] 2 [(0,(.k (.int .i64 3))),(1,(.k (.int .i64 1)))]⟩,⟨none,none,.call .pure (.k (.fn 36 [] [])) [(.loc 0),(.loc 1)]⟩,⟨none,none,.mv (.loc 2)⟩,⟨none,none,.extract (.loc 3) 0⟩,⟨none,none,.extract (.loc 3) 1⟩,⟨(some 3),none,.mv (.loc 4)⟩,⟨(some 4),none,.mv (.loc 5)⟩] none) (.seq (.region [ ⟨none,none,.build [.int .i64 0,.int .i64 0] [(0,1,(.k (.int .i64 3))),(1,1,(.k (.int .i64 2)))]⟩,⟨none,none,.build [.int .i64 0,.int .i64 0] [(0,1,(.k (.int .i64 1))),(1,1,(.k (.int .i64 5)))]⟩,⟨none,none,.bslice false 2 [.int .i64 0,.int .i64 0] 2 [(0,(.loc 0)),(1,(.loc 1))]⟩,⟨(some 5),none,.mv (.loc 2)⟩] none) (.seq (.region [ ⟨none,none,.call .pure (.k (.fn 44 [] [])) []⟩,⟨none,none,.mv (.var 5)⟩,⟨none,none,.call .pure (.k (.fn 25 [] [])) [(.loc 0),(.loc 1)]⟩,⟨none,none,.mv (.loc 2)⟩,⟨none,none,.extract (.loc 3) 0⟩,⟨none,none,.extract (.loc 3) 1⟩,⟨(some 6),none,.mv (.loc 4)⟩,⟨(some 7),none,.mv (.loc 5)⟩] none) (.seq (.region [ ⟨none,none,.call .pure (.k (.fn 44 [] [])) []⟩,⟨none,none,.mv (.var 5)⟩,⟨none,none,.call .pure (.k (.fn 26 [] [])) [(.loc 0),(.loc 1)]⟩,⟨none,none,.mv (.loc 2)⟩,⟨none,none,.extract (.loc 3) 0⟩,⟨none,none,.extract (.loc 3) 1⟩,⟨(some 8),none,.mv (.loc 4)⟩,⟨(some 9),none,.mv (.loc 5)⟩] none) (.seq (.region [ ⟨none,none,.call .pure (.k (.fn 45 [] [])) []⟩,⟨none,none,.bslice false 1 [.int .i64 0] 2 [(0,(.k (.int .i64 3))),(1,(.k (.int .i64 1)))]⟩,⟨none,none,.call .pure (.k (.fn 24 [] [])) [(.loc 0),(.loc 1)]⟩,⟨none,none,.mv (.loc 2)⟩,⟨none,none,.extract (.loc 3) 0⟩,⟨none,none,.extract (.loc 3) 1⟩,⟨(some 10),none,.alloc [.int .i64 0,.int .u64 0]⟩,⟨none,none,.store 2 (.var 10) (.loc 4)⟩,⟨(some 11),none,.mv (.loc 5)⟩] none) (.seq (.region [ ⟨none,none,.call .pure (.k (.fn 45 [] [])) []⟩,⟨none,none,.call .pure (.k (.fn 46 [] [])) [(.loc 0),(.k (.int .i64 0)),(.k (.int .i64 3))]⟩,⟨none,none,.mv (.loc 1)⟩,⟨none,none,.extract (.loc 2) 0⟩,⟨none,none,.extract (.loc 2) 1⟩,⟨(some 12),none,.alloc [.int .i64 0,.nil,.nil,.nil]⟩,⟨none,none,.store 4 (.var 12) (.loc 3)⟩,⟨(some 13),none,.mv (.loc 4)⟩] none) (.seq (.region [ ⟨none,none,.call .pure (.k (.fn 45 [] [])) []⟩,⟨none,none,.call .pure (.k (.fn 18 [] [])) [(.loc 0),(.k (.int .i64 0)),(.k (.int .i64 1))]⟩,⟨none,none,.mv (.loc 1)⟩,⟨none,none,.extract (.loc 2) 0⟩,⟨none,none,.extract (.loc 2) 1⟩,⟨(some 14),none,.alloc [.int .i64 0,.nil,.nil,.nil]⟩,⟨none,none,.store 4 (.var 14) (.loc 3)⟩,⟨(some 15),none,.mv (.loc 4)⟩] none) (.seq (.region [ ⟨none,none,.call .pure (.k (.fn 45 [] [])) []⟩,⟨none,none,.build [.int .i64 0,.int .i64 0] [(0,1,(.k (.int .i64 3))),(1,1,(.k (.int .i64 2)))]⟩,⟨none,none,.build [.int .i64 0,.int .i64 0] [(0,1,(.k (.int .i64 1))),(1,1,(.k (.int .i64 1)))]⟩,⟨none,none,.bslice false 2 [.int .i64 0,.int .i64 0] 2 [(0,(.loc 1)),(1,(.loc 2))]⟩,⟨none,none,.call .pure (.k (.fn 19 [] [])) [(.loc 0),(.loc 3)]⟩,⟨none,none,.mv (.loc 4)⟩,⟨none,none,.extract (.loc 5) 0⟩,⟨none,none,.extract (.loc 5) 1⟩,⟨(some 16),none,.alloc [.int .i64 0,.nil,.nil,.nil]⟩,⟨none,none,.store 4 (.var 16) (.loc 6)⟩,⟨(some 17),none,.mv (.loc 7)⟩] none) (.seq (.seq (.region [ ⟨none,none,.mv (.var 2)⟩,⟨none,none,.mv (.var 4)⟩,⟨none,none,.bin .add (.loc 0) (.loc 1)⟩,⟨none,none,.mv (.var 7)⟩,⟨none,none,.bin .add (.loc 2) (.loc 3)⟩,⟨none,none,.mv (.var 9)⟩,⟨none,none,.bin .add (.loc 4) (.loc 5)⟩,⟨none,none,.mv (.var 11)⟩,⟨none,none,.bin .add (.loc 6) (.loc 7)⟩,⟨none,none,.mv (.var 13)⟩,⟨none,none,.bin .add (.loc 8) (.loc 9)⟩,⟨none,none,.mv (.var 15)⟩,⟨none,none,.bin .add (.loc 10) (.loc 11)⟩,⟨none,none,.mv (.var 17)⟩,⟨none,none,.bin .add (.loc 12) (.loc 13)⟩,⟨none,none,.bin .neq (.loc 14) (.k (.int .i64 0))⟩,⟨none,none,.mv (.loc 15)⟩,⟨none,some (16,false),.mv (.var 1)⟩,⟨none,some (16,false),.len .sl (.loc 17)⟩,⟨none,some (16,false),.bin .neq (.loc 18) (.k (.int .i64 6))⟩,⟨none,none,.pick (.loc 16) (.k (.bool true)) (.loc 19)⟩,⟨none,none,.mv (.loc 20)⟩,⟨none,some (21,false),.mv (.var 1)⟩,⟨none,some (21,false),.iaddr none 1 (.loc 22) (.k (.int .i64 5))⟩,⟨none,some (21,false),.load false 1 (.loc 23)⟩,⟨none,some (21,false),.bslice false 1 [.int .i64 0] 2 [(0,(.k (.int .i64 4))),(1,(.k (.int .i64 1)))]⟩,⟨none,some (21,false),.call .pure (.k (.fn 43 [] [])) [(.loc 24),(.loc 25)]⟩,⟨none,some (21,false),.un .not (.loc 26)⟩,⟨none,none,.pick (.loc 21) (.k (.bool true)) (.loc 27)⟩,⟨none,none,.mv (.loc 28)⟩,⟨none,some (29,false),.mv (.var 3)⟩,⟨none,some (29,false),.bin .neq (.loc 30) (.k (.int .i64 4))⟩,⟨none,none,.pick (.loc 29) (.k (.bool true)) (.loc 31)⟩,⟨none,none,.mv (.loc 32)⟩,⟨none,some (33,false),.mv (.var 6)⟩,⟨none,some (33,false),.build [.int .i64 0,.int .i64 0] [(0,1,(.k (.int .i64 3))),(1,1,(.k (.int .i64 2)))]⟩,⟨none,some (33,false),.build [.int .i64 0,.int .i64 0] [(0,1,(.k (.int .i64 1))),(1,1,(.k (.int .i64 1)))]⟩,⟨none,some (33,false),.bslice false 2 [.int .i64 0,.int .i64 0] 2 [(0,(.loc 35)),(1,(.loc 36))]⟩,⟨none,some (33,false),.call .pure (.k (.fn 32 [] [])) [(.loc 34),(.loc 37)]⟩,⟨none,some (33,false),.un .not (.loc 38)⟩,⟨none,none,.pick (.loc 33) (.k (.bool true)) (.loc 39)⟩,⟨none,none,.mv (.loc 40)⟩,⟨none,some (41,false),.mv (.var 8)⟩,⟨none,some (41,false),.build [.int .i64 0,.int .i64 0] [(0,1,(.k (.int .i64 2))),(1,1,(.k (.int .i64 3)))]⟩,⟨none,some (41,false),.build [.int .i64 0,.int .i64 0] [(0,1,(.k (.int .i64 0))),(1,1,(.k (.int .i64 6)))]⟩,⟨none,some (41,false),.bslice false 2 [.int .i64 0,.int .i64 0] 2 [(0,(.loc 43)),(1,(.loc 44))]⟩,⟨none,some (41,false),.call .pure (.k (.fn 32 [] [])) [(.loc 42),(.loc 45)]⟩,⟨none,some (41,false),.un .not (.loc 46)⟩,⟨none,none,.pick (.loc 41) (.k (.bool true)) (.loc 47)⟩,⟨none,none,.mv (.loc 48)⟩,⟨none,some (49,false),.load true 2 (.var 10)⟩,⟨none,some (49,false),.build [.int .i64 0,.int .u64 0] [(0,1,(.k (.int .i64 1))),(1,1,(.k (.int .u64 50)))]⟩,⟨none,some (49,false),.eqs true (.agg [(0,.int),(1,.int)]) (.loc 50) (.loc 51)⟩,⟨none,none,.pick (.loc 49) (.k (.bool true)) (.loc 52)⟩,⟨none,none,.mv (.loc 53)⟩,⟨none,some (54,false),.faddr 3 (.var 12)⟩,⟨none,some (54,false),.load false 1 (.loc 55)⟩,⟨none,some (54,false),.bslice false 1 [.int .u64 0] 2 [(0,(.k (.int .u64 20))),(1,(.k (.int .u64 50)))]⟩,⟨none,some (54,false),.call .pure (.k (.fn 47 [] [])) [(.loc 56),(.loc 57)]⟩,⟨none,some (54,false),.un .not (.loc 58)⟩,⟨none,none,.pick (.loc 54) (.k (.bool true)) (.loc 59)⟩,⟨none,none,.mv (.loc 60)⟩,⟨none,some (61,false),.faddr 3 (.var 14)⟩,⟨none,some (61,false),.load false 1 (.loc 62)⟩,⟨none,some (61,false),.bslice false 1 [.int .u64 0] 6 [(0,(.k (.int .u64 10))),(1,(.k (.int .u64 40))),(2,(.k (.int .u64 20))),(3,(.k (.int .u64 50))),(4,(.k (.int .u64 30))),(5,(.k (.int .u64 60)))]⟩,⟨none,some (61,false),.call .pure (.k (.fn 47 [] [])) [(.loc 63),(.loc 64)]⟩,⟨none,some (61,false),.un .not (.loc 65)⟩,⟨none,none,.pick (.loc 61) (.k (.bool true)) (.loc 66)⟩,⟨none,none,.mv (.loc 67)⟩,⟨none,some (68,false),.faddr 3 (.var 16)⟩,⟨none,some (68,false),.load false 1 (.loc 69)⟩,⟨none,some (68,false),.bslice false 1 [.int .u64 0] 2 [(0,(.k (.int .u64 50))),(1,(.k (.int .u64 60)))]⟩,⟨none,some (68,false),.call .pure (.k (.fn 47 [] [])) [(.loc 70),(.loc 71)]⟩,⟨none,some (68,false),.un .not (.loc 72)⟩,⟨(some 26),none,.pick (.loc 68) (.k (.bool true)) (.loc 73)⟩] none) (.cond (.var 26) (.seq (.region [ ⟨(some 0),none,.mv (.k (.bool false))⟩] none) .ret) .skip)) (.seq (.seq (.region [ ⟨(some 27),none,.bslice false 1 [.int .u64 0] 3 [(0,(.k (.int .u64 40))),(1,(.k (.int .u64 50))),(2,(.k (.int .u64 50)))]⟩,⟨(some 28),none,.len .sl (.var 27)⟩,⟨(some 29),none,.mv (.k (.int .i64 0))⟩] none) (.block 0 (.loop [0,0,0,0,0,0,0,0,0,0,0,0,1,0,0,0,0,0,0,0,0,0,0,0,0,0,0,1,1,1,0,0] [1,0,0,0,0,0,0,0,0,0,0,0,1,0,0,0,0,0,0,0,0,0,0,0,0,0,0,0,0,0,0,0] b9_0))) (.seq (.region [ ⟨none,none,.call .pure (.k (.fn 44 [] [])) []⟩,⟨none,none,.bslice false 1 [.int .i64 0] 2 [(0,(.k (.int .i64 2))),(1,(.k (.int .i64 6)))]⟩,⟨none,none,.mkslice 1 8 [.int .u64 0] (.k (.int .i64 12)) (.k (.int .i64 12))⟩,⟨none,none,.build [.int .i64 0,.nil,.nil,.nil] [(0,1,(.k (.int .i64 1))),(1,1,(.loc 0)),(2,1,(.loc 1)),(3,1,(.loc 2))]⟩,⟨(some 22),none,.alloc [.int .i64 0,.nil,.nil,.nil]⟩,⟨none,none,.store 4 (.var 22) (.loc 3)⟩] (some (5,[]))) (.seq (.region [ ⟨none,none,.call .pure (.k (.fn 44 [] [])) []⟩,⟨none,none,.bslice false 1 [.int .i64 0] 2 [(0,(.k (.int .i64 1))),(1,(.k (.int .i64 2)))]⟩,⟨none,none,.mkslice 1 8 [.int .u64 0] (.k (.int .i64 12)) (.k (.int .i64 12))⟩,⟨none,none,.build [.int .i64 0,.nil,.nil,.nil] [(0,1,(.k (.int .i64 1))),(1,1,(.loc 0)),(2,1,(.loc 1)),(3,1,(.loc 2))]⟩,⟨(some 23),none,.alloc [.int .i64 0,.nil,.nil,.nil]⟩,⟨none,none,.store 4 (.var 23) (.loc 3)⟩] (some (5,[]))) (.seq (.region [ ⟨none,none,.load true 4 (.var 12)⟩,⟨none,none,.call .pure (.k (.fn 10 [] [])) [(.loc 0)]⟩,⟨none,none,.mv (.loc 1)⟩,⟨none,none,.extract (.loc 2) 0⟩,⟨none,none,.extract (.loc 2) 1⟩,⟨(some 24),none,.mv (.loc 3)⟩,⟨(some 25),none,.mv (.loc 4)⟩] none) (.seq (.region [ ⟨none,none,.load true 4 (.var 22)⟩,⟨none,none,.call .pure (.k (.fn 48 [] [])) [(.loc 0)]⟩,⟨none,none,.bin .eql (.loc 1) (.k (.int .i64 0))⟩,⟨none,none,.mv (.loc 2)⟩,⟨none,some (3,true),.load true 4 (.var 23)⟩,⟨none,some (3,true),.call .pure (.k (.fn 48 [] [])) [(.loc 4)]⟩,⟨none,some (3,true),.bin .eql (.loc 5) (.k (.int .i64 26))⟩,⟨none,none,.pick (.loc 3) (.loc 6) (.k (.bool false))⟩,⟨none,none,.mv (.loc 7)⟩,⟨none,some (8,true),.mv (.var 25)⟩,⟨none,some (8,true),.bin .eql (.loc 9) (.k (.int .i64 0))⟩,⟨none,none,.pick (.loc 8) (.loc 10) (.k (.bool false))⟩,⟨none,none,.mv (.loc 11)⟩,⟨none,some (12,true),.mv (.var 24)⟩,⟨none,some (12,true),.bslice false 1 [.int .u8 0] 10 [(0,(.k (.int .u8 1))),(1,(.k (.int .u8 1))),(2,(.k (.int .u8 0))),(3,(.k (.int .u8 0))),(4,(.k (.int .u8 0))),(5,(.k (.int .u8 0))),(6,(.k (.int .u8 2))),(7,(.k (.int .u8 0))),(8,(.k (.int .u8 20))),(9,(.k (.int .u8 50)))]⟩,⟨none,some (12,true),.call .pure (.k (.fn 49 [] [])) [(.loc 13),(.loc 14)]⟩,⟨none,none,.pick (.loc 12) (.loc 15) (.k (.bool false))⟩,⟨(some 0),none,.mv (.loc 16)⟩] none) .ret))))))))))))))))
def ir9 : IFn:={ np:=0,nv:=32,slots:=[0,1,2,3,4,5,6,7,8,9,10,11,12,13,14,15,16,17,18,19,20,21,22,23,24,25,150,151,152,153,154,173],res:=[.v 0],body:=c9 }
def ks9 : List (List Nat):=[[0,0,0,0,0,0,0,0,0,0,0,0,1,0,0,0,0,0,0,0,0,0,0,0,0,0,0,1,1,1,0,0],[1,0,0,0,0,0,0,0,0,0,0,0,1,0,0,0,0,0,0,0,0,0,0,0,0,0,0,0,0,0,0,0]]
def hi9 : Hint:={ own:=false,fb:=false,dyn:=.pure,md:=[] }
def c10 : IR:=(.seq (.region [ ⟨(some 3),none,.boxi (.var 0)⟩,⟨(some 1),none,.mv (.k (.nil))⟩,⟨(some 2),none,.mv (.k (.int .i64 0))⟩] none) (.seq (.seq (.region [ ⟨none,none,.load true 4 (.var 3)⟩,⟨none,none,.call .pure (.k (.fn 48 [] [])) [(.loc 0)]⟩,⟨(some 4),none,.mv (.loc 1)⟩] none) (.seq (.region [ ⟨none,none,.mv (.var 4)⟩,⟨(some 5),none,.bin .neq (.loc 0) (.k (.int .i64 0))⟩] none) (.cond (.var 5) (.seq (.region [ ⟨none,none,.mv (.var 4)⟩,⟨(some 1),none,.mv (.k (.nil))⟩,⟨(some 2),none,.mv (.loc 0)⟩] none) .ret) .skip))) (.seq (.region [ ⟨none,none,.load true 4 (.var 3)⟩,⟨none,none,.call .pure (.k (.fn 50 [] [])) [(.loc 0)]⟩,⟨(some 1),none,.mv (.loc 1)⟩,⟨(some 2),none,.mv (.k (.int .i64 0))⟩] none) .ret)))
def ir10 : IFn:={ np:=1,nv:=6,slots:=[0,2,3,1,4,8],res:=[.v 1,.v 2],body:=c10 }
def ks10 : List (List Nat):=[]
def hi10 : Hint:={ own:=false,fb:=true,dyn:=.pure,md:=[] }
def c11 : IR:=(.seq (.region [ ⟨(some 2),none,.box (.var 0)⟩,⟨(some 1),none,.alloc [.int .i64 0,.nil,.nil,.nil]⟩] none) (.seq (.region [ ⟨none,none,.faddr 1 (.var 2)⟩,⟨none,none,.load false 1 (.loc 0)⟩,⟨none,none,.call .pure (.k (.fn 20 [] [])) [(.loc 1)]⟩,⟨none,none,.faddr 2 (.var 2)⟩,⟨none,none,.load false 1 (.loc 3)⟩,⟨none,none,.call .pure (.k (.fn 51 [] [])) [(.loc 4)]⟩,⟨none,none,.faddr 3 (.var 2)⟩,⟨none,none,.load false 1 (.loc 6)⟩,⟨none,none,.call .imp (.k (.fn 52 [] [])) [(.loc 7)]⟩,⟨none,none,.faddr 1 (.var 2)⟩,⟨none,none,.store 1 (.loc 9) (.loc 2)⟩,⟨none,none,.faddr 2 (.var 2)⟩,⟨none,none,.store 1 (.loc 11) (.loc 5)⟩,⟨none,none,.faddr 3 (.var 2)⟩,⟨none,none,.store 1 (.loc 13) (.loc 8)⟩] (some (10,[]))) (.seq (.region [ ⟨none,none,.load true 4 (.var 2)⟩,⟨none,none,.store 4 (.var 1) (.loc 0)⟩] none) .ret)))
def ir11 : IFn:={ np:=1,nv:=3,slots:=[0,2,1],res:=[.cell 1 true 4],body:=c11 }
def ks11 : List (List Nat):=[]
def hi11 : Hint:={ own:=false,fb:=false,dyn:=.pure,md:=[(52,.imp)] }
def d12_0 : IR:=(.seq (.region [ ⟨(some 14),none,.next (.var 13)⟩,⟨(some 15),none,.extract (.var 14) 0⟩] none) (.seq (.cond (.var 15) .skip (.exit 0)) (.block 1 (.seq (.region [ ⟨none,none,.extract (.var 14) 2⟩,⟨(some 6),none,.mv (.loc 0)⟩] none) (.seq (.region [ ⟨none,none,.mv (.var 4)⟩,⟨none,none,.call .sh (.loc 0) [(.k (.int .i64 1))]⟩,⟨none,none,.conv .i64 (.loc 1)⟩,⟨(some 7),none,.mv (.loc 2)⟩] none) (.seq (.region [ ⟨none,none,.faddr 0 (.var 3)⟩,⟨none,none,.load false 1 (.loc 0)⟩,⟨none,none,.nilck (.loc 1)⟩,⟨none,none,.faddr 1 (.loc 2)⟩,⟨none,none,.load false 1 (.loc 3)⟩,⟨none,none,.call .pure (.k (.fn 54 [] [])) [(.loc 4),(.k (.int .i64 24))]⟩,⟨(some 8),none,.mv (.loc 5)⟩] none) (.seq (.seq (.region [ ⟨none,none,.mv (.var 6)⟩,⟨(some 16),none,.bin .eql (.loc 0) (.k (.int .i32 107))⟩] none) (.cond (.var 16) (.seq (.region [ ⟨none,none,.mv (.var 7)⟩,⟨none,none,.faddr 1 (.var 3)⟩,⟨none,none,.faddr 0 (.loc 1)⟩,⟨none,none,.store 1 (.loc 2) (.loc 0)⟩] none) (.region [ ⟨none,none,.mv (.var 8)⟩,⟨none,none,.mv (.var 7)⟩,⟨none,none,.call .pure (.k (.fn 56 [] [])) [(.loc 1)]⟩,⟨none,none,.bslice false 1 [.int .i64 0] 2 [(0,(.loc 0)),(1,(.loc 2))]⟩,⟨none,none,.call .pure (.k (.fn 55 [] [])) [(.loc 3)]⟩,⟨(some 8),none,.mv (.loc 4)⟩] none)) (.seq (.region [ ⟨none,none,.mv (.var 7)⟩,⟨(some 5),none,.mv (.loc 0)⟩] none) (.region [ ⟨none,none,.mv (.var 8)⟩,⟨none,none,.mv (.var 7)⟩,⟨none,none,.call .pure (.k (.fn 57 [] [])) [(.loc 1),(.k (.int .i64 1)),(.k (.int .i64 3))]⟩,⟨none,none,.un .not (.loc 2)⟩,⟨none,none,.call .pure (.k (.fn 54 [] [])) [(.loc 3),(.k (.int .i64 13))]⟩,⟨none,none,.bslice false 1 [.int .i64 0] 2 [(0,(.loc 0)),(1,(.loc 4))]⟩,⟨none,none,.call .pure (.k (.fn 55 [] [])) [(.loc 5)]⟩,⟨(some 8),none,.mv (.loc 6)⟩] none)))) (.seq (.region [ ⟨none,none,.mv (.var 8)⟩,⟨(some 17),none,.bin .neq (.loc 0) (.k (.int .i64 0))⟩] none) (.cond (.var 17) (.seq (.region [ ⟨none,none,.build [.int .i64 0,.nil,.nil,.nil] []⟩,⟨none,none,.mv (.var 8)⟩,⟨none,none,.store 4 (.var 1) (.loc 0)⟩,⟨(some 2),none,.mv (.loc 1)⟩] none) .ret) .skip)))))))))
def b12_0 : IR:=d12_0
def d12_1 : IR:=(.seq (.region [ ⟨(some 20),none,.bin .lss (.var 19) (.var 18)⟩] none) (.seq (.cond (.var 20) .skip (.exit 2)) (.seq (.block 3 (.seq (.region [ ⟨none,none,.mv (.var 4)⟩,⟨none,none,.call .sh (.loc 0) [(.k (.int .i64 4))]⟩,⟨none,none,.conv .i32 (.loc 1)⟩,⟨none,none,.conv .i64 (.loc 2)⟩,⟨(some 9),none,.mv (.loc 3)⟩] none) (.seq (.region [ ⟨none,none,.faddr 1 (.var 3)⟩,⟨none,none,.faddr 1 (.loc 0)⟩,⟨none,none,.load false 1 (.loc 1)⟩,⟨none,none,.mv (.var 9)⟩,⟨none,none,.mv (.var 4)⟩,⟨none,none,.call .sh (.loc 4) [(.k (.int .i64 2))]⟩,⟨none,none,.conv .i64 (.loc 5)⟩,⟨none,none,.build [.int .i64 0,.int .i64 0] [(0,1,(.loc 3)),(1,1,(.loc 6))]⟩,⟨none,none,.bslice false 2 [.int .i64 0,.int .i64 0] 1 [(0,(.loc 7))]⟩,⟨none,none,.append 2 16 (.loc 2) (.loc 8)⟩,⟨none,none,.faddr 1 (.var 3)⟩,⟨none,none,.faddr 1 (.loc 10)⟩,⟨none,none,.store 1 (.loc 11) (.loc 9)⟩] (some (5005,[0,1,2,3]))) (.seq (.region [ ⟨none,none,.faddr 0 (.var 3)⟩,⟨none,none,.load false 1 (.loc 0)⟩,⟨none,none,.nilck (.loc 1)⟩,⟨none,none,.faddr 1 (.loc 2)⟩,⟨(some 21),none,.load false 1 (.loc 3)⟩] none) (.cond (.var 21) (.seq (.region [ ⟨none,none,.build [.int .i64 0,.nil,.nil,.nil] []⟩,⟨none,none,.store 4 (.var 1) (.loc 0)⟩,⟨(some 2),none,.mv (.k (.int .i64 24))⟩] none) .ret) .skip))))) (.region [ ⟨none,none,.bin .add (.var 19) (.k (.int .i64 1))⟩,⟨(some 19),none,.mv (.loc 0)⟩] none))))
def b12_1 : IR:=d12_1
def d12_2 : IR:=(.seq (.region [ ⟨(some 25),none,.bin .lss (.var 24) (.var 23)⟩] none) (.seq (.cond (.var 25) .skip (.exit 4)) (.seq (.block 5 (.seq (.region [ ⟨none,none,.mv (.var 4)⟩,⟨none,none,.faddr 1 (.var 3)⟩,⟨none,none,.faddr 0 (.loc 1)⟩,⟨none,none,.load false 1 (.loc 2)⟩,⟨none,none,.call .pure (.k (.fn 60 [] [])) [(.loc 3)]⟩,⟨none,none,.call .sh (.loc 0) [(.loc 4)]⟩,⟨(some 11),none,.mv (.loc 5)⟩] none) (.seq (.seq (.region [ ⟨none,none,.faddr 0 (.var 3)⟩,⟨none,none,.load false 1 (.loc 0)⟩,⟨none,none,.nilck (.loc 1)⟩,⟨none,none,.faddr 1 (.loc 2)⟩,⟨none,none,.load false 1 (.loc 3)⟩,⟨none,none,.call .pure (.k (.fn 54 [] [])) [(.loc 4),(.k (.int .i64 24))]⟩,⟨none,none,.faddr 1 (.var 3)⟩,⟨none,none,.faddr 0 (.loc 6)⟩,⟨none,none,.load false 1 (.loc 7)⟩,⟨none,none,.mv (.var 11)⟩,⟨none,none,.call .pure (.k (.fn 61 [] [])) [(.loc 8),(.loc 9)]⟩,⟨none,none,.bslice false 1 [.int .i64 0] 2 [(0,(.loc 5)),(1,(.loc 10))]⟩,⟨none,none,.call .pure (.k (.fn 55 [] [])) [(.loc 11)]⟩,⟨(some 12),none,.mv (.loc 12)⟩] (some (14,[]))) (.seq (.region [ ⟨none,none,.mv (.var 12)⟩,⟨(some 26),none,.bin .neq (.loc 0) (.k (.int .i64 0))⟩] none) (.cond (.var 26) (.seq (.region [ ⟨none,none,.build [.int .i64 0,.nil,.nil,.nil] []⟩,⟨none,none,.mv (.var 12)⟩,⟨none,none,.store 4 (.var 1) (.loc 0)⟩,⟨(some 2),none,.mv (.loc 1)⟩] none) .ret) .skip))) (.region [ ⟨none,none,.faddr 1 (.var 3)⟩,⟨none,none,.faddr 3 (.loc 0)⟩,⟨none,none,.load false 1 (.loc 1)⟩,⟨none,none,.mv (.var 11)⟩,⟨none,none,.bslice false 1 [.int .u64 0] 1 [(0,(.loc 3))]⟩,⟨none,none,.append 1 8 (.loc 2) (.loc 4)⟩,⟨none,none,.faddr 1 (.var 3)⟩,⟨none,none,.faddr 3 (.loc 6)⟩,⟨none,none,.store 1 (.loc 7) (.loc 5)⟩] none)))) (.region [ ⟨none,none,.bin .add (.var 24) (.k (.int .i64 1))⟩,⟨(some 24),none,.mv (.loc 0)⟩] none))))
def b12_2 : IR:=d12_2
def c12 : IR:=(.seq (.region [ ⟨(some 1),none,.alloc [.int .i64 0,.nil,.nil,.nil]⟩,⟨(some 2),none,.mv (.k (.int .i64 0))⟩] none) (.seq (.region [ ⟨none,none,.mv (.var 0)⟩,⟨none,none,.build [.nil,.bool false] [(0,1,(.loc 0))]⟩,⟨none,none,.box (.loc 1)⟩,⟨none,none,.build [.nilp,.int .i64 0,.nil,.nil,.nil] [(0,1,(.loc 2))]⟩,⟨(some 3),none,.alloc [.nilp,.int .i64 0,.nil,.nil,.nil]⟩,⟨none,none,.store 5 (.var 3) (.loc 3)⟩] none) (.seq (.region [ ⟨none,none,.faddr 0 (.var 3)⟩,⟨none,none,.load false 1 (.loc 0)⟩,⟨none,none,.mkfn 53 [(.loc 1)] []⟩,⟨(some 4),none,.mv (.loc 2)⟩] none) (.seq (.region [ ⟨(some 5),none,.mv (.k (.int .i64 0))⟩] none) (.seq (.seq (.region [ ⟨(some 13),none,.range (.k (.str ⟨#[107,100]⟩))⟩] none) (.block 0 (.loop [0,1,0,1,1,1,0,0,0,0,0,0,0,1,0,0,0,0,0,0,0,0,0,0,0,0,0,0] [0,1,1,1,1,1,0,0,0,0,0,0,0,0,0,0,0,0,0,0,0,0,0,0,0,0,0,0] b12_0))) (.seq (.seq (.region [ ⟨(some 18),none,.mv (.var 5)⟩,⟨(some 19),none,.mv (.k (.int .i64 0))⟩] none) (.block 2 (.loop [0,1,0,1,1,0,0,0,0,0,0,0,0,0,0,0,0,0,1,1,0,0,0,0,0,0,0,0] [0,1,1,1,1,0,0,0,0,0,0,0,0,0,0,0,0,0,0,0,0,0,0,0,0,0,0,0] b12_1))) (.seq (.seq (.region [ ⟨none,none,.faddr 1 (.var 3)⟩,⟨none,none,.faddr 1 (.loc 0)⟩,⟨none,none,.load false 1 (.loc 1)⟩,⟨none,none,.call .pure (.k (.fn 40 [] [])) [(.loc 2)]⟩,⟨(some 10),none,.mv (.loc 3)⟩] none) (.seq (.region [ ⟨none,none,.mv (.var 10)⟩,⟨(some 22),none,.bin .neq (.loc 0) (.k (.int .i64 0))⟩] none) (.cond (.var 22) (.seq (.region [ ⟨none,none,.build [.int .i64 0,.nil,.nil,.nil] []⟩,⟨none,none,.mv (.var 10)⟩,⟨none,none,.store 4 (.var 1) (.loc 0)⟩,⟨(some 2),none,.mv (.loc 1)⟩] none) .ret) .skip))) (.seq (.region [ ⟨none,none,.faddr 1 (.var 3)⟩,⟨none,none,.faddr 1 (.loc 0)⟩,⟨none,none,.load false 1 (.loc 1)⟩,⟨none,none,.call .pure (.k (.fn 58 [] [])) [(.loc 2)]⟩,⟨none,none,.faddr 1 (.var 3)⟩,⟨none,none,.faddr 2 (.loc 4)⟩,⟨none,none,.store 1 (.loc 5) (.loc 3)⟩] none) (.seq (.seq (.region [ ⟨none,none,.faddr 1 (.var 3)⟩,⟨none,none,.faddr 1 (.loc 0)⟩,⟨none,none,.load false 1 (.loc 1)⟩,⟨(some 23),none,.call .pure (.k (.fn 59 [] [])) [(.loc 2)]⟩,⟨(some 24),none,.mv (.k (.int .i64 0))⟩] none) (.block 4 (.loop [0,1,0,1,1,0,0,0,0,0,0,0,0,0,0,0,0,0,0,0,0,0,0,1,1,0,0,0] [0,1,1,1,0,0,0,0,0,0,0,0,0,0,0,0,0,0,0,0,0,0,0,0,0,0,0,0] b12_2))) (.seq (.seq (.region [ ⟨none,none,.faddr 0 (.var 3)⟩,⟨none,none,.load false 1 (.loc 0)⟩,⟨none,none,.nilck (.loc 1)⟩,⟨none,none,.faddr 0 (.loc 2)⟩,⟨none,none,.load false 1 (.loc 3)⟩,⟨none,none,.len .sl (.loc 4)⟩,⟨(some 27),none,.bin .gtr (.loc 5) (.k (.int .i64 0))⟩] none) (.cond (.var 27) (.seq (.region [ ⟨none,none,.build [.int .i64 0,.nil,.nil,.nil] []⟩,⟨none,none,.store 4 (.var 1) (.loc 0)⟩,⟨(some 2),none,.mv (.k (.int .i64 2))⟩] none) .ret) .skip)) (.seq (.region [ ⟨none,none,.faddr 1 (.var 3)⟩,⟨none,none,.load true 4 (.loc 0)⟩,⟨none,none,.store 4 (.var 1) (.loc 1)⟩,⟨(some 2),none,.mv (.k (.int .i64 0))⟩] none) .ret)))))))))))
def ir12 : IFn:={ np:=1,nv:=28,slots:=[0,2,3,4,5,6,8,9,10,11,12,13,14,22,23,24,36,54,57,58,59,80,88,100,101,102,123,141],res:=[.cell 1 true 4,.v 2],body:=c12 }
def ks12 : List (List Nat):=[[0,1,0,1,1,1,0,0,0,0,0,0,0,1,0,0,0,0,0,0,0,0,0,0,0,0,0,0],[0,1,1,1,1,1,0,0,0,0,0,0,0,0,0,0,0,0,0,0,0,0,0,0,0,0,0,0],[0,1,0,1,1,0,0,0,0,0,0,0,0,0,0,0,0,0,1,1,0,0,0,0,0,0,0,0],[0,1,1,1,1,0,0,0,0,0,0,0,0,0,0,0,0,0,0,0,0,0,0,0,0,0,0,0],[0,1,0,1,1,0,0,0,0,0,0,0,0,0,0,0,0,0,0,0,0,0,0,1,1,0,0,0],[0,1,1,1,0,0,0,0,0,0,0,0,0,0,0,0,0,0,0,0,0,0,0,0,0,0,0,0]]
def hi12 : Hint:={ own:=false,fb:=false,dyn:=.sh,md:=[],late:=true }
def c13 : IR:=(.seq (.region [ ⟨(some 3),none,.boxi (.var 0)⟩,⟨(some 1),none,.alloc [.int .i64 0,.nil,.nil,.nil]⟩,⟨(some 2),none,.mv (.k (.int .i64 0))⟩] none) (.seq (.seq (.region [ ⟨none,none,.load true 4 (.var 3)⟩,⟨none,none,.call .pure (.k (.fn 48 [] [])) [(.loc 0)]⟩,⟨(some 4),none,.mv (.loc 1)⟩] none) (.seq (.region [ ⟨none,none,.mv (.var 4)⟩,⟨(some 6),none,.bin .neq (.loc 0) (.k (.int .i64 0))⟩] none) (.cond (.var 6) (.seq (.region [ ⟨none,none,.build [.int .i64 0,.nil,.nil,.nil] []⟩,⟨none,none,.mv (.var 4)⟩,⟨none,none,.store 4 (.var 1) (.loc 0)⟩,⟨(some 2),none,.mv (.loc 1)⟩] none) .ret) .skip))) (.seq (.region [ ⟨none,none,.load true 4 (.var 3)⟩,⟨none,none,.build [.int .i64 0,.nil,.nil,.nil] [(0,4,(.loc 0))]⟩,⟨none,none,.mkfn 62 [(.loc 1)] []⟩,⟨(some 5),none,.mv (.loc 2)⟩] none) (.seq (.region [ ⟨none,none,.faddr 0 (.var 3)⟩,⟨none,none,.load false 1 (.loc 0)⟩,⟨none,none,.faddr 1 (.var 3)⟩,⟨none,none,.load false 1 (.loc 2)⟩,⟨none,none,.mv (.var 5)⟩,⟨none,none,.call .pure (.k (.fn 63 [] [])) [(.loc 1),(.loc 3),(.loc 4)]⟩,⟨none,none,.store 4 (.var 1) (.loc 5)⟩,⟨(some 2),none,.mv (.k (.int .i64 0))⟩] none) .ret))))
def ir13 : IFn:={ np:=1,nv:=7,slots:=[0,2,3,1,4,5,9],res:=[.cell 1 true 4,.v 2],body:=c13 }
def ks13 : List (List Nat):=[]
def hi13 : Hint:={ own:=false,fb:=true,dyn:=.pure,md:=[] }
def d14_0 : IR:=(.seq (.region [ ⟨(some 16),none,.bin .lss (.var 15) (.var 14)⟩] none) (.seq (.cond (.var 16) .skip (.exit 0)) (.seq (.block 1 (.seq (.region [ ⟨none,none,.mv (.var 15)⟩,⟨(some 8),none,.mv (.loc 0)⟩] none) (.seq (.region [ ⟨none,none,.mv (.var 7)⟩,⟨none,none,.faddr 1 (.var 4)⟩,⟨none,none,.load false 1 (.loc 1)⟩,⟨none,none,.mv (.var 8)⟩,⟨none,none,.iaddr none 2 (.loc 2) (.loc 3)⟩,⟨none,none,.load true 2 (.loc 4)⟩,⟨none,none,.build [.int .i64 0,.int .i64 0] [(0,2,(.loc 5))]⟩,⟨none,none,.faddr 1 (.var 5)⟩,⟨none,none,.load false 1 (.loc 7)⟩,⟨none,none,.mv (.var 8)⟩,⟨none,none,.iaddr none 2 (.loc 8) (.loc 9)⟩,⟨none,none,.load true 2 (.loc 10)⟩,⟨none,none,.build [.int .i64 0,.int .i64 0] [(0,2,(.loc 11))]⟩,⟨none,none,.call .pure (.loc 0) [(.loc 6),(.loc 12)]⟩,⟨(some 17),none,.un .not (.loc 13)⟩] (some (15,[]))) (.cond (.var 17) (.seq (.region [ ⟨none,none,.store 1 (.var 2) (.k (.bool false))⟩,⟨none,none,.store 1 (.var 3) (.k (.int .i64 0))⟩] none) .ret) .skip)))) (.region [ ⟨none,none,.bin .add (.var 15) (.k (.int .i64 1))⟩,⟨(some 15),none,.mv (.loc 0)⟩] none))))
def b14_0 : IR:=d14_0
def d14_1 : IR:=(.region [ ⟨(some 11),none,.alloc [.int .i64 0,.int .i64 0,.int .i64 0]⟩,⟨none,none,.store 3 (.var 11) (.var 20)⟩] none)
def b14_1 : IR:=d14_1
def d14_2 : IR:=(.block 3 (.seq (.region [ ⟨none,none,.load true 4 (.var 9)⟩,⟨none,none,.load true 3 (.var 11)⟩,⟨none,none,.call .pure (.k (.fn 62 [] [])) [(.loc 0),(.loc 1)]⟩,⟨none,none,.load true 4 (.var 10)⟩,⟨none,none,.load true 3 (.var 11)⟩,⟨none,none,.call .pure (.k (.fn 62 [] [])) [(.loc 3),(.loc 4)]⟩,⟨(some 21),none,.bin .neq (.loc 2) (.loc 5)⟩] (some (7,[]))) (.cond (.var 21) (.seq (.region [ ⟨none,none,.store 1 (.var 2) (.k (.bool false))⟩,⟨none,none,.store 1 (.var 3) (.k (.int .i64 0))⟩] none) .ret) .skip)))
def b14_2 : IR:=d14_2
def c14 : IR:=(.seq (.region [ ⟨(some 4),none,.boxi (.var 0)⟩,⟨(some 5),none,.boxi (.var 1)⟩,⟨(some 2),none,.alloc [.bool false]⟩,⟨(some 3),none,.alloc [.int .i64 0]⟩] none) (.seq (.seq (.region [ ⟨none,none,.load true 4 (.var 4)⟩,⟨none,none,.call .pure (.k (.fn 48 [] [])) [(.loc 0)]⟩,⟨none,none,.load true 4 (.var 5)⟩,⟨none,none,.call .pure (.k (.fn 48 [] [])) [(.loc 2)]⟩,⟨none,none,.bslice false 1 [.int .i64 0] 2 [(0,(.loc 1)),(1,(.loc 3))]⟩,⟨none,none,.call .pure (.k (.fn 55 [] [])) [(.loc 4)]⟩,⟨(some 6),none,.mv (.loc 5)⟩] (some (7,[]))) (.seq (.region [ ⟨none,none,.mv (.var 6)⟩,⟨(some 12),none,.bin .neq (.loc 0) (.k (.int .i64 0))⟩] none) (.cond (.var 12) (.seq (.region [ ⟨none,none,.mv (.var 6)⟩,⟨none,none,.store 1 (.var 2) (.k (.bool false))⟩,⟨none,none,.store 1 (.var 3) (.loc 0)⟩] none) .ret) .skip))) (.seq (.seq (.region [ ⟨none,none,.faddr 0 (.var 4)⟩,⟨none,none,.load false 1 (.loc 0)⟩,⟨none,none,.faddr 0 (.var 5)⟩,⟨none,none,.load false 1 (.loc 2)⟩,⟨none,none,.bin .neq (.loc 1) (.loc 3)⟩,⟨none,none,.mv (.loc 4)⟩,⟨none,some (5,false),.faddr 1 (.var 4)⟩,⟨none,some (5,false),.load false 1 (.loc 6)⟩,⟨none,some (5,false),.len .sl (.loc 7)⟩,⟨none,some (5,false),.faddr 1 (.var 5)⟩,⟨none,some (5,false),.load false 1 (.loc 9)⟩,⟨none,some (5,false),.len .sl (.loc 10)⟩,⟨none,some (5,false),.bin .neq (.loc 8) (.loc 11)⟩,⟨(some 13),none,.pick (.loc 5) (.k (.bool true)) (.loc 12)⟩] none) (.cond (.var 13) (.seq (.region [ ⟨none,none,.store 1 (.var 2) (.k (.bool false))⟩,⟨none,none,.store 1 (.var 3) (.k (.int .i64 0))⟩] none) .ret) .skip)) (.seq (.region [ ⟨(some 7),none,.mv (.k (.fn 64 [] []))⟩] none) (.seq (.seq (.region [ ⟨none,none,.faddr 1 (.var 4)⟩,⟨none,none,.load false 1 (.loc 0)⟩,⟨(some 14),none,.len .sl (.loc 1)⟩,⟨(some 15),none,.mv (.k (.int .i64 0))⟩] none) (.block 0 (.loop [0,0,1,1,1,1,0,1,0,0,0,0,0,0,1,1,0,0,0,0,0,0] [0,0,1,1,1,1,0,0,0,0,0,0,0,0,0,0,0,0,0,0,0,0] b14_0))) (.seq (.region [ ⟨none,none,.load true 4 (.var 4)⟩,⟨none,none,.build [.int .i64 0,.nil,.nil,.nil] [(0,4,(.loc 0))]⟩,⟨none,none,.load true 4 (.var 5)⟩,⟨none,none,.build [.int .i64 0,.nil,.nil,.nil] [(0,4,(.loc 2))]⟩,⟨(some 9),none,.alloc [.int .i64 0,.nil,.nil,.nil]⟩,⟨(some 10),none,.alloc [.int .i64 0,.nil,.nil,.nil]⟩,⟨none,none,.store 4 (.var 9) (.loc 1)⟩,⟨none,none,.store 4 (.var 10) (.loc 3)⟩] (some (6,[2,3]))) (.seq (.seq (.region [ ⟨none,none,.faddr 1 (.var 4)⟩,⟨none,none,.load false 1 (.loc 0)⟩,⟨(some 18),none,.call .pure (.k (.fn 65 [] [])) [(.loc 1)]⟩] none) (.block 2 (.rfunc (.var 18) [19,20] b14_1 b14_2))) (.seq (.region [ ⟨none,none,.store 1 (.var 2) (.k (.bool true))⟩,⟨none,none,.store 1 (.var 3) (.k (.int .i64 0))⟩] none) .ret))))))))
def ir14 : IFn:={ np:=2,nv:=22,slots:=[0,1,4,5,2,3,6,7,8,9,10,12,20,35,38,39,40,56,64,65,66,73],res:=[.cell 2 false 1,.cell 3 false 1],body:=c14 }
def ks14 : List (List Nat):=[[0,0,1,1,1,1,0,1,0,0,0,0,0,0,1,1,0,0,0,0,0,0],[0,0,1,1,1,1,0,0,0,0,0,0,0,0,0,0,0,0,0,0,0,0]]
def hi14 : Hint:={ own:=false,fb:=true,dyn:=.pure,md:=[] }
def d15_0 : IR:=(.seq (.region [ ⟨(some 11),none,.bin .lss (.var 10) (.var 9)⟩] none) (.seq (.cond (.var 11) .skip (.exit 0)) (.seq (.block 1 (.seq (.region [ ⟨none,none,.iaddr none 1 (.var 8) (.var 10)⟩,⟨none,none,.load false 1 (.loc 0)⟩,⟨(some 6),none,.mv (.loc 1)⟩] none) (.region [ ⟨none,none,.mv (.var 5)⟩,⟨none,none,.mv (.var 6)⟩,⟨none,none,.conv .u64 (.loc 1)⟩,⟨none,none,.bin .xor (.loc 0) (.loc 2)⟩,⟨none,none,.bin .mul (.loc 3) (.k (.int .u64 1099511628211))⟩,⟨(some 5),none,.mv (.loc 4)⟩] none))) (.region [ ⟨none,none,.bin .add (.var 10) (.k (.int .i64 1))⟩,⟨(some 10),none,.mv (.loc 0)⟩] none))))
def b15_0 : IR:=d15_0
def c15 : IR:=(.seq (.region [ ⟨(some 3),none,.boxi (.var 0)⟩,⟨(some 1),none,.mv (.k (.int .u64 0))⟩,⟨(some 2),none,.mv (.k (.int .i64 0))⟩] none) (.seq (.seq (.region [ ⟨none,none,.load true 4 (.var 3)⟩,⟨none,none,.call .pure (.k (.fn 48 [] [])) [(.loc 0)]⟩,⟨(some 4),none,.mv (.loc 1)⟩] none) (.seq (.region [ ⟨none,none,.mv (.var 4)⟩,⟨(some 7),none,.bin .neq (.loc 0) (.k (.int .i64 0))⟩] none) (.cond (.var 7) (.seq (.region [ ⟨none,none,.mv (.var 4)⟩,⟨(some 1),none,.mv (.k (.int .u64 0))⟩,⟨(some 2),none,.mv (.loc 0)⟩] none) .ret) .skip))) (.seq (.region [ ⟨(some 5),none,.mv (.k (.int .u64 14695981039346656037))⟩] none) (.seq (.seq (.region [ ⟨none,none,.load true 4 (.var 3)⟩,⟨(some 8),none,.call .pure (.k (.fn 50 [] [])) [(.loc 0)]⟩,⟨(some 9),none,.len .sl (.var 8)⟩,⟨(some 10),none,.mv (.k (.int .i64 0))⟩] none) (.block 0 (.loop [0,0,0,0,0,1,0,0,1,1,1,0] [0,0,0,0,0,1,0,0,0,0,0,0] b15_0))) (.seq (.region [ ⟨none,none,.mv (.var 5)⟩,⟨(some 1),none,.mv (.loc 0)⟩,⟨(some 2),none,.mv (.k (.int .i64 0))⟩] none) .ret)))))
def ir15 : IFn:={ np:=1,nv:=12,slots:=[0,2,3,1,4,5,7,11,14,15,16,17],res:=[.v 1,.v 2],body:=c15 }
def ks15 : List (List Nat):=[[0,0,0,0,0,1,0,0,1,1,1,0],[0,0,0,0,0,1,0,0,0,0,0,0]]
def hi15 : Hint:={ own:=false,fb:=true,dyn:=.pure,md:=[] }
def c16 : IR:=(.seq (.region [ ⟨(some 3),none,.boxi (.var 0)⟩,⟨(some 4),none,.boxi (.var 1)⟩,⟨(some 2),none,.mv (.k (.bool false))⟩] none) (.seq (.region [ ⟨none,none,.faddr 0 (.var 3)⟩,⟨none,none,.load false 1 (.loc 0)⟩,⟨none,none,.faddr 0 (.var 4)⟩,⟨none,none,.load false 1 (.loc 2)⟩,⟨none,none,.bin .eql (.loc 1) (.loc 3)⟩,⟨none,none,.mv (.loc 4)⟩,⟨none,some (5,true),.faddr 1 (.var 3)⟩,⟨none,some (5,true),.load false 1 (.loc 6)⟩,⟨none,some (5,true),.faddr 1 (.var 4)⟩,⟨none,some (5,true),.load false 1 (.loc 8)⟩,⟨none,some (5,true),.call .pure (.k (.fn 32 [] [])) [(.loc 7),(.loc 9)]⟩,⟨none,none,.pick (.loc 5) (.loc 10) (.k (.bool false))⟩,⟨none,none,.mv (.loc 11)⟩,⟨none,some (12,true),.faddr 2 (.var 3)⟩,⟨none,some (12,true),.load false 1 (.loc 13)⟩,⟨none,some (12,true),.faddr 2 (.var 4)⟩,⟨none,some (12,true),.load false 1 (.loc 15)⟩,⟨none,some (12,true),.call .pure (.k (.fn 43 [] [])) [(.loc 14),(.loc 16)]⟩,⟨none,none,.pick (.loc 12) (.loc 17) (.k (.bool false))⟩,⟨none,none,.mv (.loc 18)⟩,⟨none,some (19,true),.faddr 3 (.var 3)⟩,⟨none,some (19,true),.load false 1 (.loc 20)⟩,⟨none,some (19,true),.faddr 3 (.var 4)⟩,⟨none,some (19,true),.load false 1 (.loc 22)⟩,⟨none,some (19,true),.call .pure (.k (.fn 47 [] [])) [(.loc 21),(.loc 23)]⟩,⟨none,none,.pick (.loc 19) (.loc 24) (.k (.bool false))⟩,⟨(some 2),none,.mv (.loc 25)⟩] none) .ret))
def ir16 : IFn:={ np:=2,nv:=5,slots:=[0,1,4,2,3],res:=[.v 2],body:=c16 }
def ks16 : List (List Nat):=[]
def hi16 : Hint:={ own:=false,fb:=true,dyn:=.pure,md:=[] }
def d17_0 : IR:=(.seq (.seq (.region [ ⟨none,none,.mv (.var 3)⟩,⟨none,none,.mv (.var 0)⟩,⟨none,none,.len .sl (.loc 1)⟩,⟨(some 4),none,.bin .lss (.loc 0) (.loc 2)⟩] none) (.cond (.var 4) .skip (.exit 0))) (.seq (.block 1 (.region [ ⟨none,none,.mv (.var 2)⟩,⟨none,none,.mv (.var 0)⟩,⟨none,none,.mv (.var 3)⟩,⟨none,none,.iaddr none 2 (.loc 1) (.loc 2)⟩,⟨none,none,.faddr 1 (.loc 3)⟩,⟨none,none,.load false 1 (.loc 4)⟩,⟨none,none,.bin .mul (.loc 0) (.loc 5)⟩,⟨(some 2),none,.mv (.loc 6)⟩] none)) (.region [ ⟨none,none,.mv (.var 3)⟩,⟨none,none,.bin .add (.loc 0) (.k (.int .i64 1))⟩,⟨(some 3),none,.mv (.loc 1)⟩] none)))
def b17_0 : IR:=d17_0
def c17 : IR:=(.seq (.region [ ⟨(some 1),none,.mv (.k (.int .i64 0))⟩] none) (.seq (.region [ ⟨(some 2),none,.mv (.k (.int .i64 1))⟩] none) (.seq (.seq (.region [ ⟨(some 3),none,.mv (.k (.int .i64 0))⟩] none) (.block 0 (.loop [1,0,1,1,0] [0,0,1,0,0] b17_0))) (.seq (.region [ ⟨none,none,.mv (.var 2)⟩,⟨(some 1),none,.mv (.loc 0)⟩] none) .ret))))
def ir17 : IFn:={ np:=1,nv:=5,slots:=[0,2,3,4,8],res:=[.v 1],body:=c17 }
def ks17 : List (List Nat):=[[1,0,1,1,0],[0,0,1,0,0]]
def hi17 : Hint:={ own:=false,fb:=false,dyn:=.pure,md:=[] }
def c18 : IR:=(.seq (.region [ ⟨(some 5),none,.boxi (.var 0)⟩,⟨(some 6),none,.boxi (.var 1)⟩,⟨(some 7),none,.boxi (.var 2)⟩,⟨(some 3),none,.alloc [.int .i64 0,.nil,.nil,.nil]⟩,⟨(some 4),none,.mv (.k (.int .i64 0))⟩] none) (.seq (.seq (.region [ ⟨none,none,.load true 4 (.var 5)⟩,⟨none,none,.call .pure (.k (.fn 48 [] [])) [(.loc 0)]⟩,⟨none,none,.load false 1 (.var 6)⟩,⟨none,none,.faddr 1 (.var 5)⟩,⟨none,none,.load false 1 (.loc 3)⟩,⟨none,none,.len .sl (.loc 4)⟩,⟨none,none,.bin .sub (.loc 5) (.k (.int .i64 1))⟩,⟨none,none,.call .pure (.k (.fn 57 [] [])) [(.loc 2),(.k (.int .i64 0)),(.loc 6)]⟩,⟨none,none,.un .not (.loc 7)⟩,⟨none,none,.call .pure (.k (.fn 54 [] [])) [(.loc 8),(.k (.int .i64 3))]⟩,⟨none,none,.load false 1 (.var 7)⟩,⟨none,none,.faddr 1 (.var 5)⟩,⟨none,none,.load false 1 (.loc 11)⟩,⟨none,none,.len .sl (.loc 12)⟩,⟨none,none,.bin .sub (.loc 13) (.k (.int .i64 1))⟩,⟨none,none,.call .pure (.k (.fn 57 [] [])) [(.loc 10),(.k (.int .i64 0)),(.loc 14)]⟩,⟨none,none,.un .not (.loc 15)⟩,⟨none,none,.call .pure (.k (.fn 54 [] [])) [(.loc 16),(.k (.int .i64 3))]⟩,⟨none,none,.bslice false 1 [.int .i64 0] 3 [(0,(.loc 1)),(1,(.loc 9)),(2,(.loc 17))]⟩,⟨none,none,.call .pure (.k (.fn 55 [] [])) [(.loc 18)]⟩,⟨(some 8),none,.mv (.loc 19)⟩] (some (21,[]))) (.seq (.region [ ⟨none,none,.mv (.var 8)⟩,⟨(some 10),none,.bin .neq (.loc 0) (.k (.int .i64 0))⟩] none) (.cond (.var 10) (.seq (.region [ ⟨none,none,.build [.int .i64 0,.nil,.nil,.nil] []⟩,⟨none,none,.mv (.var 8)⟩,⟨none,none,.store 4 (.var 3) (.loc 0)⟩,⟨(some 4),none,.mv (.loc 1)⟩] none) .ret) .skip))) (.seq (.region [ ⟨none,none,.faddr 1 (.var 5)⟩,⟨none,none,.load false 1 (.loc 0)⟩,⟨none,none,.call .imp (.k (.fn 66 [] [])) [(.loc 1)]⟩,⟨(some 9),none,.mv (.loc 2)⟩] none) (.seq (.region [ ⟨none,none,.mv (.var 9)⟩,⟨none,none,.load false 1 (.var 6)⟩,⟨none,none,.mv (.var 9)⟩,⟨none,none,.load false 1 (.var 7)⟩,⟨none,none,.mv (.var 9)⟩,⟨none,none,.load false 1 (.var 7)⟩,⟨none,none,.iaddr none 2 (.loc 4) (.loc 5)⟩,⟨none,none,.load true 2 (.loc 6)⟩,⟨none,none,.mv (.var 9)⟩,⟨none,none,.load false 1 (.var 6)⟩,⟨none,none,.iaddr none 2 (.loc 8) (.loc 9)⟩,⟨none,none,.load true 2 (.loc 10)⟩,⟨none,none,.iaddr none 2 (.loc 0) (.loc 1)⟩,⟨none,none,.store 2 (.loc 12) (.loc 7)⟩,⟨none,none,.iaddr none 2 (.loc 2) (.loc 3)⟩,⟨none,none,.store 2 (.loc 14) (.loc 11)⟩] (some (13,[2,3]))) (.seq (.region [ ⟨none,none,.faddr 0 (.var 5)⟩,⟨none,none,.load false 1 (.loc 0)⟩,⟨none,none,.mv (.var 9)⟩,⟨none,none,.mkfn 67 [] [(.var 7),(.var 6),(.var 5)]⟩,⟨none,none,.call .pure (.k (.fn 63 [] [])) [(.loc 1),(.loc 2),(.loc 3)]⟩,⟨none,none,.store 4 (.var 3) (.loc 4)⟩,⟨(some 4),none,.mv (.k (.int .i64 0))⟩] none) .ret)))))
def ir18 : IFn:={ np:=3,nv:=11,slots:=[0,1,2,6,7,3,4,5,8,9,31],res:=[.cell 3 true 4,.v 4],body:=c18 }
def ks18 : List (List Nat):=[]
def hi18 : Hint:={ own:=false,fb:=true,dyn:=.pure,md:=[(66,.imp)] }
def c19 : IR:=(.seq (.region [ ⟨(some 4),none,.boxi (.var 0)⟩,⟨(some 2),none,.alloc [.int .i64 0,.nil,.nil,.nil]⟩,⟨(some 3),none,.mv (.k (.int .i64 0))⟩] none) (.seq (.seq (.region [ ⟨none,none,.load true 4 (.var 4)⟩,⟨none,none,.call .pure (.k (.fn 48 [] [])) [(.loc 0)]⟩,⟨none,none,.mv (.var 1)⟩,⟨none,none,.call .pure (.k (.fn 40 [] [])) [(.loc 2)]⟩,⟨none,none,.mv (.var 1)⟩,⟨none,none,.len .sl (.loc 4)⟩,⟨none,none,.faddr 1 (.var 4)⟩,⟨none,none,.load false 1 (.loc 6)⟩,⟨none,none,.len .sl (.loc 7)⟩,⟨none,none,.bin .neq (.loc 5) (.loc 8)⟩,⟨none,none,.call .pure (.k (.fn 54 [] [])) [(.loc 9),(.k (.int .i64 13))]⟩,⟨none,none,.bslice false 1 [.int .i64 0] 3 [(0,(.loc 1)),(1,(.loc 3)),(2,(.loc 10))]⟩,⟨none,none,.call .pure (.k (.fn 55 [] [])) [(.loc 11)]⟩,⟨(some 5),none,.mv (.loc 12)⟩] (some (14,[]))) (.seq (.region [ ⟨none,none,.mv (.var 5)⟩,⟨(some 6),none,.bin .neq (.loc 0) (.k (.int .i64 0))⟩] none) (.cond (.var 6) (.seq (.region [ ⟨none,none,.build [.int .i64 0,.nil,.nil,.nil] []⟩,⟨none,none,.mv (.var 5)⟩,⟨none,none,.store 4 (.var 2) (.loc 0)⟩,⟨(some 3),none,.mv (.loc 1)⟩] none) .ret) .skip))) (.seq (.seq (.region [ ⟨none,none,.mv (.var 1)⟩,⟨none,none,.call .pure (.k (.fn 59 [] [])) [(.loc 0)]⟩,⟨none,none,.bin .gtr (.loc 1) (.k (.int .i64 0))⟩,⟨none,none,.mv (.loc 2)⟩,⟨none,some (3,true),.faddr 1 (.var 4)⟩,⟨none,some (3,true),.load false 1 (.loc 4)⟩,⟨none,some (3,true),.mv (.var 1)⟩,⟨none,some (3,true),.call .pure (.k (.fn 69 [] [])) [(.loc 5),(.loc 6),(.k (.fn 70 [] []))]⟩,⟨none,some (3,true),.mv (.var 1)⟩,⟨none,some (3,true),.call .pure (.k (.fn 68 [] [])) [(.loc 7),(.loc 8)]⟩,⟨none,some (3,true),.un .not (.loc 9)⟩,⟨(some 7),none,.pick (.loc 3) (.loc 10) (.k (.bool false))⟩] none) (.cond (.var 7) (.seq (.region [ ⟨none,none,.build [.int .i64 0,.nil,.nil,.nil] []⟩,⟨none,none,.store 4 (.var 2) (.loc 0)⟩,⟨(some 3),none,.mv (.k (.int .i64 14))⟩] none) .ret) .skip)) (.seq (.region [ ⟨none,none,.faddr 0 (.var 4)⟩,⟨none,none,.load false 1 (.loc 0)⟩,⟨none,none,.mv (.var 1)⟩,⟨none,none,.load true 4 (.var 4)⟩,⟨none,none,.build [.int .i64 0,.nil,.nil,.nil] [(0,4,(.loc 3))]⟩,⟨none,none,.mkfn 62 [(.loc 4)] []⟩,⟨none,none,.call .pure (.k (.fn 63 [] [])) [(.loc 1),(.loc 2),(.loc 5)]⟩,⟨none,none,.store 4 (.var 2) (.loc 6)⟩,⟨(some 3),none,.mv (.k (.int .i64 0))⟩] none) .ret))))
def ir19 : IFn:={ np:=2,nv:=8,slots:=[0,1,4,5,2,6,21,35],res:=[.cell 2 true 4,.v 3],body:=c19 }
def ks19 : List (List Nat):=[]
def hi19 : Hint:={ own:=false,fb:=true,dyn:=.pure,md:=[] }
def c20 : IR:=(.seq (.region [ ⟨(some 1),none,.mv (.k (.nil))⟩] none) (.seq (.region [ ⟨none,none,.mv (.var 0)⟩,⟨none,none,.append 2 16 (.k (.nil)) (.loc 0)⟩,⟨(some 1),none,.mv (.loc 1)⟩] none) .ret))
def ir20 : IFn:={ np:=1,nv:=2,slots:=[0,2],res:=[.v 1],body:=c20 }
def ks20 : List (List Nat):=[]
def hi20 : Hint:={ own:=false,fb:=false,dyn:=.pure,md:=[] }
def d21_0 : IR:=(.seq (.seq (.region [ ⟨none,none,.mv (.var 3)⟩,⟨none,none,.mv (.var 0)⟩,⟨none,none,.len .sl (.loc 1)⟩,⟨(some 4),none,.bin .lss (.loc 0) (.loc 2)⟩] none) (.cond (.var 4) .skip (.exit 0))) (.seq (.block 1 (.seq (.region [ ⟨none,none,.mv (.var 1)⟩,⟨none,none,.mv (.var 3)⟩,⟨none,none,.iaddr none 1 (.loc 0) (.loc 1)⟩,⟨none,none,.load false 1 (.loc 2)⟩,⟨none,none,.mv (.var 0)⟩,⟨none,none,.mv (.var 3)⟩,⟨none,none,.iaddr none 2 (.loc 4) (.loc 5)⟩,⟨none,none,.faddr 0 (.loc 6)⟩,⟨none,none,.load false 1 (.loc 7)⟩,⟨none,none,.bin .lss (.loc 3) (.loc 8)⟩,⟨none,none,.mv (.loc 9)⟩,⟨none,some (10,false),.mv (.var 1)⟩,⟨none,some (10,false),.mv (.var 3)⟩,⟨none,some (10,false),.iaddr none 1 (.loc 11) (.loc 12)⟩,⟨none,some (10,false),.load false 1 (.loc 13)⟩,⟨none,some (10,false),.mv (.var 0)⟩,⟨none,some (10,false),.mv (.var 3)⟩,⟨none,some (10,false),.iaddr none 2 (.loc 15) (.loc 16)⟩,⟨none,some (10,false),.faddr 0 (.loc 17)⟩,⟨none,some (10,false),.load false 1 (.loc 18)⟩,⟨none,some (10,false),.mv (.var 0)⟩,⟨none,some (10,false),.mv (.var 3)⟩,⟨none,some (10,false),.iaddr none 2 (.loc 20) (.loc 21)⟩,⟨none,some (10,false),.faddr 1 (.loc 22)⟩,⟨none,some (10,false),.load false 1 (.loc 23)⟩,⟨none,some (10,false),.bin .add (.loc 19) (.loc 24)⟩,⟨none,some (10,false),.bin .geq (.loc 14) (.loc 25)⟩,⟨(some 5),none,.pick (.loc 10) (.k (.bool true)) (.loc 26)⟩] (some (28,[]))) (.cond (.var 5) (.seq (.region [ ⟨(some 2),none,.mv (.k (.bool false))⟩] none) .ret) .skip))) (.region [ ⟨none,none,.mv (.var 3)⟩,⟨none,none,.bin .add (.loc 0) (.k (.int .i64 1))⟩,⟨(some 3),none,.mv (.loc 1)⟩] none)))
def b21_0 : IR:=d21_0
def c21 : IR:=(.seq (.region [ ⟨(some 2),none,.mv (.k (.bool false))⟩] none) (.seq (.seq (.region [ ⟨(some 3),none,.mv (.k (.int .i64 0))⟩] none) (.block 0 (.loop [1,1,0,1,0,0] [0,0,1,0,0,0] b21_0))) (.seq (.region [ ⟨(some 2),none,.mv (.k (.bool true))⟩] none) .ret)))
def ir21 : IFn:={ np:=2,nv:=6,slots:=[0,1,4,5,9,39],res:=[.v 2],body:=c21 }
def ks21 : List (List Nat):=[[1,1,0,1,0,0],[0,0,1,0,0,0]]
def hi21 : Hint:={ own:=false,fb:=false,dyn:=.pure,md:=[] }
def c22 : IR:=(.seq (.region [ ⟨(some 6),none,.boxi (.var 0)⟩,⟨(some 7),none,.boxi (.var 3)⟩,⟨(some 4),none,.alloc [.int .i64 0,.int .u64 0]⟩,⟨(some 5),none,.mv (.k (.int .i64 0))⟩] none) (.seq (.seq (.region [ ⟨none,none,.load true 4 (.var 6)⟩,⟨none,none,.call .pure (.k (.fn 48 [] [])) [(.loc 0)]⟩,⟨none,none,.mv (.var 1)⟩,⟨none,none,.call .pure (.k (.fn 57 [] [])) [(.loc 2),(.k (.int .i64 0)),(.k (.int .i64 3))]⟩,⟨none,none,.un .not (.loc 3)⟩,⟨none,none,.call .pure (.k (.fn 54 [] [])) [(.loc 4),(.k (.int .i64 11))]⟩,⟨none,none,.mv (.var 2)⟩,⟨none,none,.len .sl (.loc 6)⟩,⟨none,none,.faddr 1 (.var 6)⟩,⟨none,none,.load false 1 (.loc 8)⟩,⟨none,none,.len .sl (.loc 9)⟩,⟨none,none,.bin .neq (.loc 7) (.loc 10)⟩,⟨none,none,.call .pure (.k (.fn 54 [] [])) [(.loc 11),(.k (.int .i64 13))]⟩,⟨none,none,.bslice false 1 [.int .i64 0] 3 [(0,(.loc 1)),(1,(.loc 5)),(2,(.loc 12))]⟩,⟨none,none,.call .pure (.k (.fn 55 [] [])) [(.loc 13)]⟩,⟨(some 8),none,.mv (.loc 14)⟩] (some (16,[]))) (.seq (.region [ ⟨none,none,.mv (.var 8)⟩,⟨(some 12),none,.bin .neq (.loc 0) (.k (.int .i64 0))⟩] none) (.cond (.var 12) (.seq (.region [ ⟨none,none,.build [.int .i64 0,.int .u64 0] []⟩,⟨none,none,.mv (.var 8)⟩,⟨none,none,.store 2 (.var 4) (.loc 0)⟩,⟨(some 5),none,.mv (.loc 1)⟩] none) .ret) .skip))) (.seq (.region [ ⟨(some 9),none,.mv (.k (.fn 71 [] []))⟩] none) (.seq (.seq (.region [ ⟨none,none,.mv (.var 2)⟩,⟨none,none,.mv (.var 9)⟩,⟨(some 13),none,.call .pure (.k (.fn 72 [] [])) [(.loc 0),(.loc 1)]⟩] none) (.cond (.var 13) (.seq (.region [ ⟨none,none,.build [.int .i64 0,.int .u64 0] []⟩,⟨none,none,.store 2 (.var 4) (.loc 0)⟩,⟨(some 5),none,.mv (.k (.int .i64 3))⟩] none) .ret) .skip)) (.seq (.seq (.region [ ⟨none,none,.mv (.var 1)⟩,⟨(some 14),none,.bin .eql (.loc 0) (.k (.int .i64 3))⟩] none) (.cond (.var 14) (.seq (.seq (.region [ ⟨none,none,.load true 2 (.var 7)⟩,⟨none,none,.call .pure (.k (.fn 73 [] [])) [(.loc 0)]⟩,⟨none,none,.faddr 0 (.var 7)⟩,⟨none,none,.load false 1 (.loc 2)⟩,⟨none,none,.faddr 0 (.var 6)⟩,⟨none,none,.load false 1 (.loc 4)⟩,⟨none,none,.bin .neq (.loc 3) (.loc 5)⟩,⟨none,none,.call .pure (.k (.fn 54 [] [])) [(.loc 6),(.k (.int .i64 12))]⟩,⟨none,none,.bslice false 1 [.int .i64 0] 2 [(0,(.loc 1)),(1,(.loc 7))]⟩,⟨none,none,.call .pure (.k (.fn 55 [] [])) [(.loc 8)]⟩,⟨(some 10),none,.mv (.loc 9)⟩] (some (11,[]))) (.seq (.region [ ⟨none,none,.mv (.var 10)⟩,⟨(some 15),none,.bin .neq (.loc 0) (.k (.int .i64 0))⟩] none) (.cond (.var 15) (.seq (.region [ ⟨none,none,.build [.int .i64 0,.int .u64 0] []⟩,⟨none,none,.mv (.var 10)⟩,⟨none,none,.store 2 (.var 4) (.loc 0)⟩,⟨(some 5),none,.mv (.loc 1)⟩] none) .ret) .skip))) (.seq (.seq (.region [ ⟨none,none,.faddr 1 (.var 6)⟩,⟨none,none,.load false 1 (.loc 0)⟩,⟨none,none,.call .pure (.k (.fn 59 [] [])) [(.loc 1)]⟩,⟨none,none,.bin .eql (.loc 2) (.k (.int .i64 0))⟩,⟨none,none,.mv (.loc 3)⟩,⟨none,some (4,false),.faddr 1 (.var 6)⟩,⟨none,some (4,false),.load false 1 (.loc 5)⟩,⟨none,some (4,false),.mv (.var 2)⟩,⟨none,some (4,false),.call .pure (.k (.fn 74 [] [])) [(.loc 6),(.k (.int .i64 0)),(.loc 7)]⟩,⟨none,some (4,false),.mv (.var 2)⟩,⟨none,some (4,false),.call .pure (.k (.fn 75 [] [])) [(.loc 9)]⟩,⟨none,some (4,false),.eqs true (.agg [(0,.int),(1,.int),(2,.int)]) (.loc 8) (.loc 10)⟩,⟨(some 16),none,.pick (.loc 4) (.k (.bool true)) (.loc 11)⟩] none) (.cond (.var 16) (.seq (.region [ ⟨none,none,.load true 2 (.var 7)⟩,⟨none,none,.store 2 (.var 4) (.loc 0)⟩,⟨(some 5),none,.mv (.k (.int .i64 0))⟩] none) .ret) .skip)) (.region [ ⟨(some 1),none,.mv (.k (.int .i64 0))⟩] none))) (.seq (.region [ ⟨none,none,.faddr 1 (.var 6)⟩,⟨none,none,.load false 1 (.loc 0)⟩,⟨none,none,.call .pure (.k (.fn 59 [] [])) [(.loc 1)]⟩,⟨(some 17),none,.bin .eql (.loc 2) (.k (.int .i64 0))⟩] none) (.cond (.var 17) (.seq (.region [ ⟨none,none,.build [.int .i64 0,.int .u64 0] []⟩,⟨none,none,.store 2 (.var 4) (.loc 0)⟩,⟨(some 5),none,.mv (.k (.int .i64 10))⟩] none) .ret) .skip)))) (.seq (.region [ ⟨none,none,.faddr 1 (.var 6)⟩,⟨none,none,.load false 1 (.loc 0)⟩,⟨none,none,.mv (.var 1)⟩,⟨none,none,.mv (.var 2)⟩,⟨none,none,.call .pure (.k (.fn 74 [] [])) [(.loc 1),(.loc 2),(.loc 3)]⟩,⟨(some 11),none,.alloc [.int .i64 0,.int .i64 0,.int .i64 0]⟩,⟨none,none,.store 3 (.var 11) (.loc 4)⟩] none) (.seq (.region [ ⟨none,none,.faddr 0 (.var 6)⟩,⟨none,none,.load false 1 (.loc 0)⟩,⟨none,none,.load true 4 (.var 6)⟩,⟨none,none,.build [.int .i64 0,.nil,.nil,.nil] [(0,4,(.loc 2))]⟩,⟨none,none,.load true 3 (.var 11)⟩,⟨none,none,.call .pure (.k (.fn 62 [] [])) [(.loc 3),(.loc 4)]⟩,⟨none,none,.build [.int .i64 0,.int .u64 0] [(0,1,(.loc 1)),(1,1,(.loc 5))]⟩,⟨none,none,.store 2 (.var 4) (.loc 6)⟩,⟨(some 5),none,.mv (.k (.int .i64 0))⟩] (some (7,[]))) .ret)))))))
def ir22 : IFn:={ np:=4,nv:=18,slots:=[0,1,2,3,8,9,4,7,10,11,12,13,30,35,38,50,65,70],res:=[.cell 4 true 2,.v 5],body:=c22 }
def ks22 : List (List Nat):=[]
def hi22 : Hint:={ own:=false,fb:=true,dyn:=.pure,md:=[] }
def c23 : IR:=(.seq (.region [ ⟨(some 1),none,.mv (.k (.nil))⟩] none) (.seq (.region [ ⟨none,none,.bslice false 1 [.int .i64 0] 0 []⟩,⟨none,none,.mv (.var 0)⟩,⟨none,none,.append 1 8 (.loc 0) (.loc 1)⟩,⟨(some 1),none,.mv (.loc 2)⟩] none) .ret))
def ir23 : IFn:={ np:=1,nv:=2,slots:=[0,2],res:=[.v 1],body:=c23 }
def ks23 : List (List Nat):=[]
def hi23 : Hint:={ own:=false,fb:=false,dyn:=.pure,md:=[] }
def c24 : IR:=(.seq (.region [ ⟨(some 4),none,.boxi (.var 0)⟩,⟨(some 2),none,.alloc [.int .i64 0,.int .u64 0]⟩,⟨(some 3),none,.mv (.k (.int .i64 0))⟩] none) (.seq (.seq (.region [ ⟨none,none,.load true 4 (.var 4)⟩,⟨none,none,.mv (.var 1)⟩,⟨none,none,.call .pure (.k (.fn 76 [] [])) [(.loc 0),(.loc 1)]⟩,⟨(some 5),none,.mv (.loc 2)⟩] none) (.seq (.region [ ⟨none,none,.mv (.var 5)⟩,⟨(some 6),none,.bin .neq (.loc 0) (.k (.int .i64 0))⟩] none) (.cond (.var 6) (.seq (.region [ ⟨none,none,.build [.int .i64 0,.int .u64 0] []⟩,⟨none,none,.mv (.var 5)⟩,⟨none,none,.store 2 (.var 2) (.loc 0)⟩,⟨(some 3),none,.mv (.loc 1)⟩] none) .ret) .skip))) (.seq (.region [ ⟨none,none,.faddr 0 (.var 4)⟩,⟨none,none,.load false 1 (.loc 0)⟩,⟨none,none,.load true 4 (.var 4)⟩,⟨none,none,.build [.int .i64 0,.nil,.nil,.nil] [(0,4,(.loc 2))]⟩,⟨none,none,.mv (.var 1)⟩,⟨none,none,.call .pure (.k (.fn 75 [] [])) [(.loc 4)]⟩,⟨none,none,.call .pure (.k (.fn 62 [] [])) [(.loc 3),(.loc 5)]⟩,⟨none,none,.build [.int .i64 0,.int .u64 0] [(0,1,(.loc 1)),(1,1,(.loc 6))]⟩,⟨none,none,.store 2 (.var 2) (.loc 7)⟩,⟨(some 3),none,.mv (.k (.int .i64 0))⟩] (some (8,[]))) .ret)))
def ir24 : IFn:={ np:=2,nv:=7,slots:=[0,1,4,5,2,6,11],res:=[.cell 2 true 2,.v 3],body:=c24 }
def ks24 : List (List Nat):=[]
def hi24 : Hint:={ own:=false,fb:=true,dyn:=.pure,md:=[] }
def c25 : IR:=(.seq (.region [ ⟨(some 2),none,.mv (.k (.nil))⟩,⟨(some 3),none,.mv (.k (.int .i64 0))⟩] none) (.seq (.seq (.region [ ⟨none,none,.mv (.var 0)⟩,⟨none,none,.mv (.var 1)⟩,⟨none,none,.call .pure (.k (.fn 77 [] [])) [(.loc 0),(.loc 1)]⟩,⟨(some 4),none,.mv (.loc 2)⟩] none) (.seq (.region [ ⟨none,none,.mv (.var 4)⟩,⟨(some 5),none,.bin .neq (.loc 0) (.k (.int .i64 0))⟩] none) (.cond (.var 5) (.seq (.region [ ⟨none,none,.mv (.var 4)⟩,⟨(some 2),none,.mv (.k (.nil))⟩,⟨(some 3),none,.mv (.loc 0)⟩] none) .ret) .skip))) (.seq (.region [ ⟨none,none,.mv (.var 0)⟩,⟨none,none,.mv (.var 1)⟩,⟨none,none,.call .pure (.k (.fn 69 [] [])) [(.loc 0),(.loc 1),(.k (.fn 70 [] []))]⟩,⟨(some 2),none,.mv (.loc 2)⟩,⟨(some 3),none,.mv (.k (.int .i64 0))⟩] none) .ret)))
def ir25 : IFn:={ np:=2,nv:=6,slots:=[0,1,4,5,6,11],res:=[.v 2,.v 3],body:=c25 }
def ks25 : List (List Nat):=[]
def hi25 : Hint:={ own:=false,fb:=true,dyn:=.pure,md:=[] }
def c26 : IR:=(.seq (.region [ ⟨(some 2),none,.mv (.k (.nil))⟩,⟨(some 3),none,.mv (.k (.int .i64 0))⟩] none) (.seq (.seq (.region [ ⟨none,none,.mv (.var 0)⟩,⟨none,none,.mv (.var 1)⟩,⟨none,none,.call .pure (.k (.fn 77 [] [])) [(.loc 0),(.loc 1)]⟩,⟨(some 4),none,.mv (.loc 2)⟩] none) (.seq (.region [ ⟨none,none,.mv (.var 4)⟩,⟨(some 6),none,.bin .neq (.loc 0) (.k (.int .i64 0))⟩] none) (.cond (.var 6) (.seq (.region [ ⟨none,none,.mv (.var 4)⟩,⟨(some 2),none,.mv (.k (.nil))⟩,⟨(some 3),none,.mv (.loc 0)⟩] none) .ret) .skip))) (.seq (.seq (.region [ ⟨none,none,.mv (.var 1)⟩,⟨none,none,.call .pure (.k (.fn 59 [] [])) [(.loc 0)]⟩,⟨(some 7),none,.bin .eql (.loc 1) (.k (.int .i64 0))⟩] none) (.cond (.var 7) (.seq (.region [ ⟨none,none,.mv (.var 0)⟩,⟨none,none,.call .imp (.k (.fn 66 [] [])) [(.loc 0)]⟩,⟨(some 2),none,.mv (.loc 1)⟩,⟨(some 3),none,.mv (.k (.int .i64 0))⟩] none) .ret) .skip)) (.seq (.seq (.region [ ⟨none,none,.mv (.var 0)⟩,⟨none,none,.call .pure (.k (.fn 59 [] [])) [(.loc 0)]⟩,⟨(some 8),none,.bin .eql (.loc 1) (.k (.int .i64 0))⟩] none) (.cond (.var 8) (.seq (.region [ ⟨none,none,.mv (.var 1)⟩,⟨none,none,.call .imp (.k (.fn 66 [] [])) [(.loc 0)]⟩,⟨(some 2),none,.mv (.loc 1)⟩,⟨(some 3),none,.mv (.k (.int .i64 0))⟩] none) .ret) .skip)) (.seq (.region [ ⟨none,none,.mv (.var 0)⟩,⟨none,none,.mv (.var 1)⟩,⟨none,none,.call .pure (.k (.fn 69 [] [])) [(.loc 0),(.loc 1),(.k (.fn 78 [] []))]⟩,⟨(some 5),none,.mv (.loc 2)⟩] none) (.seq (.seq (.region [ ⟨none,none,.mv (.var 5)⟩,⟨none,none,.call .pure (.k (.fn 40 [] [])) [(.loc 0)]⟩,⟨(some 9),none,.bin .neq (.loc 1) (.k (.int .i64 0))⟩] none) (.cond (.var 9) (.seq (.region [ ⟨(some 2),none,.mv (.k (.nil))⟩,⟨(some 3),none,.mv (.k (.int .i64 4))⟩] none) .ret) .skip)) (.seq (.region [ ⟨none,none,.mv (.var 5)⟩,⟨(some 2),none,.mv (.loc 0)⟩,⟨(some 3),none,.mv (.k (.int .i64 0))⟩] none) .ret)))))))
def ir26 : IFn:={ np:=2,nv:=10,slots:=[0,1,4,5,6,7,12,16,21,29],res:=[.v 2,.v 3],body:=c26 }
def ks26 : List (List Nat):=[]
def hi26 : Hint:={ own:=false,fb:=true,dyn:=.pure,md:=[(66,.imp)] }
def d32_0 : IR:=(.seq (.seq (.region [ ⟨none,none,.mv (.var 3)⟩,⟨none,none,.mv (.var 0)⟩,⟨none,none,.len .sl (.loc 1)⟩,⟨(some 5),none,.bin .lss (.loc 0) (.loc 2)⟩] none) (.cond (.var 5) .skip (.exit 0))) (.seq (.block 1 (.seq (.region [ ⟨none,none,.mv (.var 0)⟩,⟨none,none,.mv (.var 3)⟩,⟨none,none,.iaddr none 2 (.loc 0) (.loc 1)⟩,⟨none,none,.load true 2 (.loc 2)⟩,⟨none,none,.mv (.var 1)⟩,⟨none,none,.mv (.var 3)⟩,⟨none,none,.iaddr none 2 (.loc 4) (.loc 5)⟩,⟨none,none,.load true 2 (.loc 6)⟩,⟨(some 6),none,.eqs true (.agg [(0,.int),(1,.int)]) (.loc 3) (.loc 7)⟩] (some (9,[]))) (.cond (.var 6) (.seq (.region [ ⟨(some 2),none,.mv (.k (.bool false))⟩] none) .ret) .skip))) (.region [ ⟨none,none,.mv (.var 3)⟩,⟨none,none,.bin .add (.loc 0) (.k (.int .i64 1))⟩,⟨(some 3),none,.mv (.loc 1)⟩] none)))
def b32_0 : IR:=d32_0
def c32 : IR:=(.seq (.region [ ⟨(some 2),none,.mv (.k (.bool false))⟩] none) (.seq (.seq (.region [ ⟨none,none,.mv (.var 0)⟩,⟨none,none,.len .sl (.loc 0)⟩,⟨none,none,.mv (.var 1)⟩,⟨none,none,.len .sl (.loc 2)⟩,⟨(some 4),none,.bin .neq (.loc 1) (.loc 3)⟩] none) (.cond (.var 4) (.seq (.region [ ⟨(some 2),none,.mv (.k (.bool false))⟩] none) .ret) .skip)) (.seq (.seq (.region [ ⟨(some 3),none,.mv (.k (.int .i64 0))⟩] none) (.block 0 (.loop [1,1,0,1,0,0,0] [0,0,1,0,0,0,0] b32_0))) (.seq (.region [ ⟨(some 2),none,.mv (.k (.bool true))⟩] none) .ret))))
def ir32 : IFn:={ np:=2,nv:=7,slots:=[0,1,4,5,10,14,25],res:=[.v 2],body:=c32 }
def ks32 : List (List Nat):=[[1,1,0,1,0,0,0],[0,0,1,0,0,0,0]]
def hi32 : Hint:={ own:=false,fb:=false,dyn:=.pure,md:=[] }
def d34_0 : IR:=(.region [ ⟨(some 6),none,.alloc [.int .i64 0,.int .i64 0,.int .i64 0]⟩,⟨none,none,.store 3 (.var 6) (.var 10)⟩] none)
def b34_0 : IR:=d34_0
def d34_1 : IR:=(.block 1 (.region [ ⟨none,none,.load false 1 (.var 5)⟩,⟨none,none,.load false 1 (.var 3)⟩,⟨none,none,.len .sl (.loc 1)⟩,⟨none,none,.slice (some 3) 1 (.var 6) none (some (.loc 2)) none⟩,⟨none,none,.call .fz (.k (.fn 79 [] [])) [(.loc 3)]⟩,⟨none,none,.bslice false 1 [.nil] 1 [(0,(.loc 4))]⟩,⟨none,none,.append 1 24 (.loc 0) (.loc 5)⟩,⟨none,none,.store 1 (.var 5) (.loc 6)⟩] (some (6,[]))))
def b34_1 : IR:=d34_1
def c34 : IR:=(.seq (.region [ ⟨(some 3),none,.boxi (.var 0)⟩,⟨(some 1),none,.mv (.k (.nil))⟩,⟨(some 2),none,.mv (.k (.int .i64 0))⟩] none) (.seq (.seq (.region [ ⟨none,none,.load false 1 (.var 3)⟩,⟨none,none,.call .pure (.k (.fn 40 [] [])) [(.loc 0)]⟩,⟨(some 4),none,.mv (.loc 1)⟩] none) (.seq (.region [ ⟨none,none,.mv (.var 4)⟩,⟨(some 7),none,.bin .neq (.loc 0) (.k (.int .i64 0))⟩] none) (.cond (.var 7) (.seq (.region [ ⟨none,none,.mv (.var 4)⟩,⟨(some 1),none,.mv (.k (.nil))⟩,⟨(some 2),none,.mv (.loc 0)⟩] none) .ret) .skip))) (.seq (.region [ ⟨(some 5),none,.alloc [.nil]⟩] none) (.seq (.seq (.region [ ⟨none,none,.load false 1 (.var 3)⟩,⟨(some 8),none,.call .pure (.k (.fn 65 [] [])) [(.loc 0)]⟩] none) (.block 0 (.rfunc (.var 8) [9,10] b34_0 b34_1))) (.seq (.region [ ⟨none,none,.load false 1 (.var 5)⟩,⟨(some 1),none,.mv (.loc 0)⟩,⟨(some 2),none,.mv (.k (.int .i64 0))⟩] none) .ret)))))
def ir34 : IFn:={ np:=1,nv:=11,slots:=[0,2,3,1,4,5,7,11,14,15,16],res:=[.v 1,.v 2],body:=c34 }
def ks34 : List (List Nat):=[]
def hi34 : Hint:={ own:=false,fb:=true,dyn:=.pure,md:=[(79,.fz)] }
def c36 : IR:=(.seq (.region [ ⟨(some 2),none,.mv (.k (.int .i64 0))⟩,⟨(some 3),none,.mv (.k (.int .i64 0))⟩] none) (.seq (.seq (.region [ ⟨none,none,.mv (.var 0)⟩,⟨none,none,.mv (.var 1)⟩,⟨none,none,.call .pure (.k (.fn 80 [] [])) [(.loc 0),(.loc 1)]⟩,⟨(some 4),none,.mv (.loc 2)⟩] none) (.seq (.region [ ⟨none,none,.mv (.var 4)⟩,⟨(some 5),none,.bin .neq (.loc 0) (.k (.int .i64 0))⟩] none) (.cond (.var 5) (.seq (.region [ ⟨none,none,.mv (.var 4)⟩,⟨(some 2),none,.mv (.k (.int .i64 0))⟩,⟨(some 3),none,.mv (.loc 0)⟩] none) .ret) .skip))) (.seq (.seq (.region [ ⟨none,none,.mv (.var 0)⟩,⟨none,none,.mv (.var 1)⟩,⟨none,none,.call .pure (.k (.fn 81 [] [])) [(.loc 0),(.loc 1)]⟩,⟨(some 6),none,.un .not (.loc 2)⟩] none) (.cond (.var 6) (.seq (.region [ ⟨(some 2),none,.mv (.k (.int .i64 0))⟩,⟨(some 3),none,.mv (.k (.int .i64 14))⟩] none) .ret) .skip)) (.seq (.region [ ⟨none,none,.mv (.var 0)⟩,⟨none,none,.mv (.var 0)⟩,⟨none,none,.call .pure (.k (.fn 58 [] [])) [(.loc 1)]⟩,⟨none,none,.mv (.var 1)⟩,⟨none,none,.call .pure (.k (.fn 75 [] [])) [(.loc 3)]⟩,⟨none,none,.call .pure (.k (.fn 82 [] [])) [(.loc 0),(.loc 2),(.loc 4)]⟩,⟨(some 2),none,.mv (.loc 5)⟩,⟨(some 3),none,.mv (.k (.int .i64 0))⟩] none) .ret))))
def ir36 : IFn:={ np:=2,nv:=7,slots:=[0,1,4,5,6,11,16],res:=[.v 2,.v 3],body:=c36 }
def ks36 : List (List Nat):=[]
def hi36 : Hint:={ own:=false,fb:=true,dyn:=.pure,md:=[] }
def c40 : IR:=(.seq (.region [ ⟨(some 1),none,.mv (.k (.int .i64 0))⟩] none) (.seq (.seq (.region [ ⟨none,none,.mv (.var 0)⟩,⟨none,none,.len .sl (.loc 0)⟩,⟨none,none,.bin .lss (.loc 1) (.k (.int .i64 1))⟩,⟨none,none,.mv (.loc 2)⟩,⟨none,some (3,false),.mv (.var 0)⟩,⟨none,some (3,false),.len .sl (.loc 4)⟩,⟨none,some (3,false),.bin .gtr (.loc 5) (.k (.int .i64 3))⟩,⟨(some 2),none,.pick (.loc 3) (.k (.bool true)) (.loc 6)⟩] none) (.cond (.var 2) (.seq (.region [ ⟨(some 1),none,.mv (.k (.int .i64 13))⟩] none) .ret) .skip)) (.seq (.region [ ⟨none,none,.mv (.var 0)⟩,⟨none,none,.call .pure (.k (.fn 84 [] [])) [(.loc 0),(.k (.fn 85 [] []))]⟩,⟨none,none,.call .pure (.k (.fn 55 [] [])) [(.loc 1)]⟩,⟨none,none,.mv (.var 0)⟩,⟨none,none,.call .pure (.k (.fn 59 [] [])) [(.loc 3)]⟩,⟨none,none,.bin .gtr (.loc 4) (.k (.int .i64 4096))⟩,⟨none,none,.call .pure (.k (.fn 54 [] [])) [(.loc 5),(.k (.int .i64 5))]⟩,⟨none,none,.bslice false 1 [.int .i64 0] 2 [(0,(.loc 2)),(1,(.loc 6))]⟩,⟨none,none,.call .pure (.k (.fn 55 [] [])) [(.loc 7)]⟩,⟨(some 1),none,.mv (.loc 8)⟩] none) .ret)))
def ir40 : IFn:={ np:=1,nv:=3,slots:=[0,2,10],res:=[.v 1],body:=c40 }
def ks40 : List (List Nat):=[]
def hi40 : Hint:={ own:=false,fb:=true,dyn:=.pure,md:=[] }
def d43_0 : IR:=(.seq (.seq (.region [ ⟨none,none,.mv (.var 3)⟩,⟨none,none,.mv (.var 0)⟩,⟨none,none,.len .sl (.loc 1)⟩,⟨(some 5),none,.bin .lss (.loc 0) (.loc 2)⟩] none) (.cond (.var 5) .skip (.exit 0))) (.seq (.block 1 (.seq (.region [ ⟨none,none,.mv (.var 0)⟩,⟨none,none,.mv (.var 3)⟩,⟨none,none,.iaddr none 1 (.loc 0) (.loc 1)⟩,⟨none,none,.load false 1 (.loc 2)⟩,⟨none,none,.mv (.var 1)⟩,⟨none,none,.mv (.var 3)⟩,⟨none,none,.iaddr none 1 (.loc 4) (.loc 5)⟩,⟨none,none,.load false 1 (.loc 6)⟩,⟨(some 6),none,.bin .neq (.loc 3) (.loc 7)⟩] (some (9,[]))) (.cond (.var 6) (.seq (.region [ ⟨(some 2),none,.mv (.k (.bool false))⟩] none) .ret) .skip))) (.region [ ⟨none,none,.mv (.var 3)⟩,⟨none,none,.bin .add (.loc 0) (.k (.int .i64 1))⟩,⟨(some 3),none,.mv (.loc 1)⟩] none)))
def b43_0 : IR:=d43_0
def c43 : IR:=(.seq (.region [ ⟨(some 2),none,.mv (.k (.bool false))⟩] none) (.seq (.seq (.region [ ⟨none,none,.mv (.var 0)⟩,⟨none,none,.len .sl (.loc 0)⟩,⟨none,none,.mv (.var 1)⟩,⟨none,none,.len .sl (.loc 2)⟩,⟨(some 4),none,.bin .neq (.loc 1) (.loc 3)⟩] none) (.cond (.var 4) (.seq (.region [ ⟨(some 2),none,.mv (.k (.bool false))⟩] none) .ret) .skip)) (.seq (.seq (.region [ ⟨(some 3),none,.mv (.k (.int .i64 0))⟩] none) (.block 0 (.loop [1,1,0,1,0,0,0] [0,0,1,0,0,0,0] b43_0))) (.seq (.region [ ⟨(some 2),none,.mv (.k (.bool true))⟩] none) .ret))))
def ir43 : IFn:={ np:=2,nv:=7,slots:=[0,1,4,5,10,14,25],res:=[.v 2],body:=c43 }
def ks43 : List (List Nat):=[[1,1,0,1,0,0,0],[0,0,1,0,0,0,0]]
def hi43 : Hint:={ own:=false,fb:=false,dyn:=.pure,md:=[] }
def c44 : IR:=(.seq (.region [ ⟨(some 0),none,.mv (.k (.nil))⟩] none) (.seq (.region [ ⟨none,none,.build [.int .i64 0,.int .i64 0] [(0,1,(.k (.int .i64 2))),(1,1,(.k (.int .i64 3)))]⟩,⟨none,none,.build [.int .i64 0,.int .i64 0] [(0,1,(.k (.int .i64 0))),(1,1,(.k (.int .i64 2)))]⟩,⟨none,none,.bslice false 2 [.int .i64 0,.int .i64 0] 2 [(0,(.loc 0)),(1,(.loc 1))]⟩,⟨(some 0),none,.mv (.loc 2)⟩] none) .ret))
def ir44 : IFn:={ np:=0,nv:=1,slots:=[0],res:=[.v 0],body:=c44 }
def ks44 : List (List Nat):=[]
def hi44 : Hint:={ own:=false,fb:=false,dyn:=.pure,md:=[] }
def c45 : IR:=(.seq (.region [ ⟨(some 0),none,.alloc [.int .i64 0,.nil,.nil,.nil]⟩] none) (.seq (.region [ ⟨none,none,.call .pure (.k (.fn 44 [] [])) []⟩,⟨none,none,.bslice false 1 [.int .i64 0] 2 [(0,(.k (.int .i64 1))),(1,(.k (.int .i64 3)))]⟩,⟨none,none,.bslice false 1 [.int .u64 0] 6 [(0,(.k (.int .u64 10))),(1,(.k (.int .u64 20))),(2,(.k (.int .u64 30))),(3,(.k (.int .u64 40))),(4,(.k (.int .u64 50))),(5,(.k (.int .u64 60)))]⟩,⟨none,none,.build [.int .i64 0,.nil,.nil,.nil] [(0,1,(.k (.int .i64 1))),(1,1,(.loc 0)),(2,1,(.loc 1)),(3,1,(.loc 2))]⟩,⟨none,none,.store 4 (.var 0) (.loc 3)⟩] none) .ret))
def ir45 : IFn:={ np:=0,nv:=1,slots:=[0],res:=[.cell 0 true 4],body:=c45 }
def ks45 : List (List Nat):=[]
def hi45 : Hint:={ own:=false,fb:=false,dyn:=.pure,md:=[] }
def c46 : IR:=(.seq (.region [ ⟨(some 5),none,.boxi (.var 0)⟩,⟨(some 6),none,.boxi (.var 1)⟩,⟨(some 7),none,.boxi (.var 2)⟩,⟨(some 3),none,.alloc [.int .i64 0,.nil,.nil,.nil]⟩,⟨(some 4),none,.mv (.k (.int .i64 0))⟩] none) (.seq (.seq (.region [ ⟨none,none,.load true 4 (.var 5)⟩,⟨none,none,.call .pure (.k (.fn 48 [] [])) [(.loc 0)]⟩,⟨none,none,.faddr 1 (.var 5)⟩,⟨none,none,.load false 1 (.loc 2)⟩,⟨none,none,.len .sl (.loc 3)⟩,⟨none,none,.bin .eql (.loc 4) (.k (.int .i64 1))⟩,⟨none,none,.call .pure (.k (.fn 54 [] [])) [(.loc 5),(.k (.int .i64 13))]⟩,⟨none,none,.load false 1 (.var 6)⟩,⟨none,none,.faddr 1 (.var 5)⟩,⟨none,none,.load false 1 (.loc 8)⟩,⟨none,none,.len .sl (.loc 9)⟩,⟨none,none,.bin .sub (.loc 10) (.k (.int .i64 1))⟩,⟨none,none,.call .pure (.k (.fn 57 [] [])) [(.loc 7),(.k (.int .i64 0)),(.loc 11)]⟩,⟨none,none,.un .not (.loc 12)⟩,⟨none,none,.call .pure (.k (.fn 54 [] [])) [(.loc 13),(.k (.int .i64 3))]⟩,⟨none,none,.bslice false 1 [.int .i64 0] 3 [(0,(.loc 1)),(1,(.loc 6)),(2,(.loc 14))]⟩,⟨none,none,.call .pure (.k (.fn 55 [] [])) [(.loc 15)]⟩,⟨(some 8),none,.mv (.loc 16)⟩] (some (18,[]))) (.seq (.region [ ⟨none,none,.mv (.var 8)⟩,⟨(some 10),none,.bin .neq (.loc 0) (.k (.int .i64 0))⟩] none) (.cond (.var 10) (.seq (.region [ ⟨none,none,.build [.int .i64 0,.nil,.nil,.nil] []⟩,⟨none,none,.mv (.var 8)⟩,⟨none,none,.store 4 (.var 3) (.loc 0)⟩,⟨(some 4),none,.mv (.loc 1)⟩] none) .ret) .skip))) (.seq (.seq (.region [ ⟨none,none,.faddr 1 (.var 5)⟩,⟨none,none,.load false 1 (.loc 0)⟩,⟨none,none,.load false 1 (.var 6)⟩,⟨none,none,.iaddr none 2 (.loc 1) (.loc 2)⟩,⟨none,none,.load true 2 (.loc 3)⟩,⟨(some 9),none,.alloc [.int .i64 0,.int .i64 0]⟩,⟨none,none,.store 2 (.var 9) (.loc 4)⟩] none) (.seq (.region [ ⟨none,none,.load false 1 (.var 7)⟩,⟨none,none,.faddr 0 (.var 9)⟩,⟨none,none,.load false 1 (.loc 1)⟩,⟨none,none,.faddr 0 (.var 9)⟩,⟨none,none,.load false 1 (.loc 3)⟩,⟨none,none,.faddr 1 (.var 9)⟩,⟨none,none,.load false 1 (.loc 5)⟩,⟨none,none,.bin .add (.loc 4) (.loc 6)⟩,⟨none,none,.bin .sub (.loc 7) (.k (.int .i64 1))⟩,⟨none,none,.call .pure (.k (.fn 57 [] [])) [(.loc 0),(.loc 2),(.loc 8)]⟩,⟨(some 11),none,.un .not (.loc 9)⟩] none) (.cond (.var 11) (.seq (.region [ ⟨none,none,.build [.int .i64 0,.nil,.nil,.nil] []⟩,⟨none,none,.store 4 (.var 3) (.loc 0)⟩,⟨(some 4),none,.mv (.k (.int .i64 14))⟩] none) .ret) .skip))) (.seq (.region [ ⟨none,none,.faddr 0 (.var 5)⟩,⟨none,none,.load false 1 (.loc 0)⟩,⟨none,none,.faddr 1 (.var 5)⟩,⟨none,none,.load false 1 (.loc 2)⟩,⟨none,none,.call .imp (.k (.fn 66 [] [])) [(.loc 3)]⟩,⟨none,none,.load false 1 (.var 6)⟩,⟨none,none,.load false 1 (.var 6)⟩,⟨none,none,.bin .add (.loc 6) (.k (.int .i64 1))⟩,⟨none,none,.mkfn 87 [] [(.var 5),(.var 6),(.var 7)]⟩,⟨none,none,.call .sh (.k (.fn 86 [] [])) [(.loc 4),(.loc 5),(.loc 7)]⟩,⟨none,none,.call .pure (.k (.fn 63 [] [])) [(.loc 1),(.loc 9),(.loc 8)]⟩,⟨none,none,.store 4 (.var 3) (.loc 10)⟩,⟨(some 4),none,.mv (.k (.int .i64 0))⟩] (some (9,[0,1,8]))) .ret))))
def ir46 : IFn:={ np:=3,nv:=12,slots:=[0,1,2,6,7,3,4,5,8,9,28,46],res:=[.cell 3 true 4,.v 4],body:=c46 }
def ks46 : List (List Nat):=[]
def hi46 : Hint:={ own:=false,fb:=true,dyn:=.pure,md:=[(66,.imp),(86,.sh)] }
def d47_0 : IR:=(.seq (.seq (.region [ ⟨none,none,.mv (.var 3)⟩,⟨none,none,.mv (.var 0)⟩,⟨none,none,.len .sl (.loc 1)⟩,⟨(some 5),none,.bin .lss (.loc 0) (.loc 2)⟩] none) (.cond (.var 5) .skip (.exit 0))) (.seq (.block 1 (.seq (.region [ ⟨none,none,.mv (.var 0)⟩,⟨none,none,.mv (.var 3)⟩,⟨none,none,.iaddr none 1 (.loc 0) (.loc 1)⟩,⟨none,none,.load false 1 (.loc 2)⟩,⟨none,none,.mv (.var 1)⟩,⟨none,none,.mv (.var 3)⟩,⟨none,none,.iaddr none 1 (.loc 4) (.loc 5)⟩,⟨none,none,.load false 1 (.loc 6)⟩,⟨(some 6),none,.bin .neq (.loc 3) (.loc 7)⟩] (some (9,[]))) (.cond (.var 6) (.seq (.region [ ⟨(some 2),none,.mv (.k (.bool false))⟩] none) .ret) .skip))) (.region [ ⟨none,none,.mv (.var 3)⟩,⟨none,none,.bin .add (.loc 0) (.k (.int .i64 1))⟩,⟨(some 3),none,.mv (.loc 1)⟩] none)))
def b47_0 : IR:=d47_0
def c47 : IR:=(.seq (.region [ ⟨(some 2),none,.mv (.k (.bool false))⟩] none) (.seq (.seq (.region [ ⟨none,none,.mv (.var 0)⟩,⟨none,none,.len .sl (.loc 0)⟩,⟨none,none,.mv (.var 1)⟩,⟨none,none,.len .sl (.loc 2)⟩,⟨(some 4),none,.bin .neq (.loc 1) (.loc 3)⟩] none) (.cond (.var 4) (.seq (.region [ ⟨(some 2),none,.mv (.k (.bool false))⟩] none) .ret) .skip)) (.seq (.seq (.region [ ⟨(some 3),none,.mv (.k (.int .i64 0))⟩] none) (.block 0 (.loop [1,1,0,1,0,0,0] [0,0,1,0,0,0,0] b47_0))) (.seq (.region [ ⟨(some 2),none,.mv (.k (.bool true))⟩] none) .ret))))
def ir47 : IFn:={ np:=2,nv:=7,slots:=[0,1,4,5,10,14,25],res:=[.v 2],body:=c47 }
def ks47 : List (List Nat):=[[1,1,0,1,0,0,0],[0,0,1,0,0,0,0]]
def hi47 : Hint:={ own:=false,fb:=false,dyn:=.pure,md:=[] }
def d48_0 : IR:=(.region [ ⟨(some 9),none,.alloc [.int .i64 0,.int .i64 0,.int .i64 0]⟩,⟨none,none,.store 3 (.var 9) (.var 16)⟩] none)
def b48_0 : IR:=d48_0
def d48_1 : IR:=(.block 1 (.seq (.region [ ⟨none,none,.faddr 1 (.var 2)⟩,⟨none,none,.load false 1 (.loc 0)⟩,⟨none,none,.faddr 2 (.var 2)⟩,⟨none,none,.load false 1 (.loc 2)⟩,⟨none,none,.load true 3 (.var 9)⟩,⟨none,none,.call .pure (.k (.fn 82 [] [])) [(.loc 1),(.loc 3),(.loc 4)]⟩,⟨(some 10),none,.mv (.loc 5)⟩] none) (.seq (.block 2 (.seq (.region [ ⟨none,none,.mv (.var 10)⟩,⟨none,none,.faddr 3 (.var 2)⟩,⟨none,none,.load false 1 (.loc 1)⟩,⟨none,none,.len .sl (.loc 2)⟩,⟨none,none,.bin .geq (.loc 0) (.loc 3)⟩,⟨(some 17),none,.mv (.loc 4)⟩] none) (.cond (.var 17) (.seq (.region [ ⟨none,none,.store 1 (.var 8) (.k (.int .i64 14))⟩] none) (.exit 0)) (.seq (.region [ ⟨none,none,.load false 1 (.var 7)⟩,⟨none,none,.mv (.var 10)⟩,⟨none,none,.lookup (.bool false) (.loc 0) (.loc 1)⟩,⟨(some 18),none,.mv (.loc 2)⟩] none) (.cond (.var 18) (.seq (.region [ ⟨none,none,.store 1 (.var 8) (.k (.int .i64 26))⟩] none) (.exit 0)) .skip))))) (.region [ ⟨none,none,.load false 1 (.var 7)⟩,⟨none,none,.mv (.var 10)⟩,⟨none,none,.mapup (.loc 0) (.loc 1) (.k (.bool true))⟩] none))))
def b48_1 : IR:=d48_1
def c48 : IR:=(.seq (.region [ ⟨(some 2),none,.boxi (.var 0)⟩,⟨(some 1),none,.mv (.k (.int .i64 0))⟩] none) (.scope (.seq (.seq (.region [ ⟨none,none,.faddr 0 (.var 2)⟩,⟨none,none,.load false 1 (.loc 0)⟩,⟨none,none,.call .pure (.k (.fn 56 [] [])) [(.loc 1)]⟩,⟨none,none,.faddr 1 (.var 2)⟩,⟨none,none,.load false 1 (.loc 3)⟩,⟨none,none,.call .pure (.k (.fn 40 [] [])) [(.loc 4)]⟩,⟨none,none,.faddr 2 (.var 2)⟩,⟨none,none,.load false 1 (.loc 6)⟩,⟨none,none,.len .sl (.loc 7)⟩,⟨none,none,.faddr 1 (.var 2)⟩,⟨none,none,.load false 1 (.loc 9)⟩,⟨none,none,.len .sl (.loc 10)⟩,⟨none,none,.bin .neq (.loc 8) (.loc 11)⟩,⟨none,none,.call .pure (.k (.fn 54 [] [])) [(.loc 12),(.k (.int .i64 2))]⟩,⟨none,none,.bslice false 1 [.int .i64 0] 3 [(0,(.loc 2)),(1,(.loc 5)),(2,(.loc 13))]⟩,⟨none,none,.call .pure (.k (.fn 55 [] [])) [(.loc 14)]⟩,⟨(some 3),none,.mv (.loc 15)⟩] (some (17,[]))) (.seq (.region [ ⟨none,none,.mv (.var 3)⟩,⟨(some 11),none,.bin .neq (.loc 0) (.k (.int .i64 0))⟩] none) (.cond (.var 11) (.seq (.region [ ⟨none,none,.mv (.var 3)⟩,⟨(some 1),none,.mv (.loc 0)⟩] none) .ret) .skip))) (.seq (.region [ ⟨(some 4),none,.mv (.k (.fn 89 [] []))⟩] none) (.seq (.seq (.region [ ⟨none,none,.faddr 2 (.var 2)⟩,⟨none,none,.load false 1 (.loc 0)⟩,⟨none,none,.mv (.var 4)⟩,⟨none,none,.call .pure (.k (.fn 72 [] [])) [(.loc 1),(.loc 2)]⟩,⟨none,none,.call .pure (.k (.fn 54 [] [])) [(.loc 3),(.k (.int .i64 3))]⟩,⟨none,none,.faddr 3 (.var 2)⟩,⟨none,none,.load false 1 (.loc 5)⟩,⟨none,none,.len .sl (.loc 6)⟩,⟨none,none,.bin .gtr (.loc 7) (.k (.int .i64 4096))⟩,⟨none,none,.call .pure (.k (.fn 54 [] [])) [(.loc 8),(.k (.int .i64 5))]⟩,⟨none,none,.bslice false 1 [.int .i64 0] 2 [(0,(.loc 4)),(1,(.loc 9))]⟩,⟨none,none,.call .pure (.k (.fn 55 [] [])) [(.loc 10)]⟩,⟨(some 5),none,.mv (.loc 11)⟩] (some (13,[]))) (.seq (.region [ ⟨none,none,.mv (.var 5)⟩,⟨(some 12),none,.bin .neq (.loc 0) (.k (.int .i64 0))⟩] none) (.cond (.var 12) (.seq (.region [ ⟨none,none,.mv (.var 5)⟩,⟨(some 1),none,.mv (.loc 0)⟩] none) .ret) .skip))) (.seq (.seq (.region [ ⟨none,none,.faddr 0 (.var 2)⟩,⟨none,none,.load false 1 (.loc 0)⟩,⟨none,none,.faddr 3 (.var 2)⟩,⟨none,none,.load false 1 (.loc 2)⟩,⟨none,none,.call .pure (.k (.fn 90 [] [])) [(.loc 1),(.loc 3)]⟩,⟨(some 6),none,.mv (.loc 4)⟩] none) (.seq (.region [ ⟨none,none,.mv (.var 6)⟩,⟨(some 13),none,.bin .neq (.loc 0) (.k (.int .i64 0))⟩] none) (.cond (.var 13) (.seq (.region [ ⟨none,none,.mv (.var 6)⟩,⟨(some 1),none,.mv (.loc 0)⟩] none) .ret) .skip))) (.seq (.region [ ⟨none,none,.mkmap⟩,⟨(some 7),none,.alloc [.nilm]⟩,⟨none,none,.store 1 (.var 7) (.loc 0)⟩] none) (.seq (.region [ ⟨(some 8),none,.alloc [.int .i64 0]⟩,⟨none,none,.store 1 (.var 8) (.k (.int .i64 0))⟩] none) (.seq .skip (.seq (.seq (.region [ ⟨none,none,.faddr 1 (.var 2)⟩,⟨none,none,.load false 1 (.loc 0)⟩,⟨(some 14),none,.call .pure (.k (.fn 65 [] [])) [(.loc 1)]⟩] none) (.block 0 (.rfunc (.var 14) [15,16] b48_0 b48_1))) (.seq (.region [ ⟨none,none,.load false 1 (.var 8)⟩,⟨(some 1),none,.mv (.loc 0)⟩] none) .ret)))))))))))
def ir48 : IFn:={ np:=1,nv:=19,slots:=[0,2,1,3,4,5,6,7,8,10,11,29,44,52,57,58,59,66,72],res:=[.v 1],body:=c48 }
def ks48 : List (List Nat):=[]
def hi48 : Hint:={ own:=false,fb:=true,dyn:=.pure,md:=[] }
def d49_0 : IR:=(.seq (.seq (.region [ ⟨none,none,.mv (.var 3)⟩,⟨none,none,.mv (.var 0)⟩,⟨none,none,.len .sl (.loc 1)⟩,⟨(some 5),none,.bin .lss (.loc 0) (.loc 2)⟩] none) (.cond (.var 5) .skip (.exit 0))) (.seq (.block 1 (.seq (.region [ ⟨none,none,.mv (.var 0)⟩,⟨none,none,.mv (.var 3)⟩,⟨none,none,.iaddr none 1 (.loc 0) (.loc 1)⟩,⟨none,none,.load false 1 (.loc 2)⟩,⟨none,none,.mv (.var 1)⟩,⟨none,none,.mv (.var 3)⟩,⟨none,none,.iaddr none 1 (.loc 4) (.loc 5)⟩,⟨none,none,.load false 1 (.loc 6)⟩,⟨(some 6),none,.bin .neq (.loc 3) (.loc 7)⟩] (some (9,[]))) (.cond (.var 6) (.seq (.region [ ⟨(some 2),none,.mv (.k (.bool false))⟩] none) .ret) .skip))) (.region [ ⟨none,none,.mv (.var 3)⟩,⟨none,none,.bin .add (.loc 0) (.k (.int .i64 1))⟩,⟨(some 3),none,.mv (.loc 1)⟩] none)))
def b49_0 : IR:=d49_0
def c49 : IR:=(.seq (.region [ ⟨(some 2),none,.mv (.k (.bool false))⟩] none) (.seq (.seq (.region [ ⟨none,none,.mv (.var 0)⟩,⟨none,none,.len .sl (.loc 0)⟩,⟨none,none,.mv (.var 1)⟩,⟨none,none,.len .sl (.loc 2)⟩,⟨(some 4),none,.bin .neq (.loc 1) (.loc 3)⟩] none) (.cond (.var 4) (.seq (.region [ ⟨(some 2),none,.mv (.k (.bool false))⟩] none) .ret) .skip)) (.seq (.seq (.region [ ⟨(some 3),none,.mv (.k (.int .i64 0))⟩] none) (.block 0 (.loop [1,1,0,1,0,0,0] [0,0,1,0,0,0,0] b49_0))) (.seq (.region [ ⟨(some 2),none,.mv (.k (.bool true))⟩] none) .ret))))
def ir49 : IFn:={ np:=2,nv:=7,slots:=[0,1,4,5,10,14,25],res:=[.v 2],body:=c49 }
def ks49 : List (List Nat):=[[1,1,0,1,0,0,0],[0,0,1,0,0,0,0]]
def hi49 : Hint:={ own:=false,fb:=false,dyn:=.pure,md:=[] }
def d50_0 : IR:=(.seq (.region [ ⟨(some 9),none,.bin .lss (.var 8) (.var 7)⟩] none) (.seq (.cond (.var 9) .skip (.exit 0)) (.seq (.block 1 (.seq (.region [ ⟨none,none,.iaddr none 2 (.var 6) (.var 8)⟩,⟨none,none,.load true 2 (.loc 0)⟩,⟨(some 4),none,.alloc [.int .i64 0,.int .i64 0]⟩,⟨none,none,.store 2 (.var 4) (.loc 1)⟩] none) (.region [ ⟨none,none,.load false 1 (.var 3)⟩,⟨none,none,.faddr 0 (.var 4)⟩,⟨none,none,.load false 1 (.loc 1)⟩,⟨none,none,.conv .u64 (.loc 2)⟩,⟨none,none,.faddr 1 (.var 4)⟩,⟨none,none,.load false 1 (.loc 4)⟩,⟨none,none,.conv .u64 (.loc 5)⟩,⟨none,none,.call .sh (.k (.fn 91 [] [])) [(.loc 0),(.loc 3),(.k (.int .i64 4))]⟩,⟨none,none,.call .sh (.k (.fn 91 [] [])) [(.loc 7),(.loc 6),(.k (.int .i64 2))]⟩,⟨none,none,.store 1 (.var 3) (.loc 8)⟩] (some (7,[4,5,6]))))) (.region [ ⟨none,none,.bin .add (.var 8) (.k (.int .i64 1))⟩,⟨(some 8),none,.mv (.loc 0)⟩] none))))
def b50_0 : IR:=d50_0
def d50_1 : IR:=(.region [ ⟨(some 5),none,.alloc [.int .i64 0,.int .i64 0,.int .i64 0]⟩,⟨none,none,.store 3 (.var 5) (.var 12)⟩] none)
def b50_1 : IR:=d50_1
def d50_2 : IR:=(.block 3 (.region [ ⟨none,none,.load false 1 (.var 3)⟩,⟨none,none,.load true 4 (.var 2)⟩,⟨none,none,.build [.int .i64 0,.nil,.nil,.nil] [(0,4,(.loc 1))]⟩,⟨none,none,.load true 3 (.var 5)⟩,⟨none,none,.call .pure (.k (.fn 62 [] [])) [(.loc 2),(.loc 3)]⟩,⟨none,none,.faddr 0 (.var 2)⟩,⟨none,none,.load false 1 (.loc 5)⟩,⟨none,none,.call .pure (.k (.fn 60 [] [])) [(.loc 6)]⟩,⟨none,none,.call .sh (.k (.fn 91 [] [])) [(.loc 0),(.loc 4),(.loc 7)]⟩,⟨none,none,.store 1 (.var 3) (.loc 8)⟩] (some (8,[]))))
def b50_2 : IR:=d50_2
def c50 : IR:=(.seq (.region [ ⟨(some 2),none,.boxi (.var 0)⟩,⟨(some 1),none,.mv (.k (.nil))⟩] none) (.seq (.region [ ⟨none,none,.faddr 0 (.var 2)⟩,⟨none,none,.load false 1 (.loc 0)⟩,⟨none,none,.conv .u8 (.loc 1)⟩,⟨none,none,.faddr 1 (.var 2)⟩,⟨none,none,.load false 1 (.loc 3)⟩,⟨none,none,.len .sl (.loc 4)⟩,⟨none,none,.conv .u8 (.loc 5)⟩,⟨none,none,.bslice true 1 [.int .u8 0] 2 [(0,(.loc 2)),(1,(.loc 6))]⟩,⟨(some 3),none,.alloc [.nil]⟩,⟨none,none,.store 1 (.var 3) (.loc 7)⟩] none) (.seq (.seq (.region [ ⟨none,none,.faddr 1 (.var 2)⟩,⟨(some 6),none,.load false 1 (.loc 0)⟩,⟨(some 7),none,.len .sl (.var 6)⟩,⟨(some 8),none,.mv (.k (.int .i64 0))⟩] none) (.block 0 (.loop [0,1,1,1,0,0,1,1,1,0,0,0,0] [0,1,1,1,0,0,0,0,0,0,0,0,0] b50_0))) (.seq (.seq (.region [ ⟨none,none,.faddr 1 (.var 2)⟩,⟨none,none,.load false 1 (.loc 0)⟩,⟨(some 10),none,.call .pure (.k (.fn 65 [] [])) [(.loc 1)]⟩] none) (.block 2 (.rfunc (.var 10) [11,12] b50_1 b50_2))) (.seq (.region [ ⟨none,none,.load false 1 (.var 3)⟩,⟨(some 1),none,.mv (.loc 0)⟩] none) .ret)))))
def ir50 : IFn:={ np:=1,nv:=13,slots:=[0,2,1,3,5,7,17,18,19,20,35,36,37],res:=[.v 1],body:=c50 }
def ks50 : List (List Nat):=[[0,1,1,1,0,0,1,1,1,0,0,0,0],[0,1,1,1,0,0,0,0,0,0,0,0,0]]
def hi50 : Hint:={ own:=true,fb:=true,dyn:=.pure,md:=[(91,.sh)] }
def c51 : IR:=(.seq (.region [ ⟨(some 1),none,.mv (.k (.nil))⟩] none) (.seq (.region [ ⟨none,none,.mv (.var 0)⟩,⟨none,none,.append 1 8 (.k (.nil)) (.loc 0)⟩,⟨(some 1),none,.mv (.loc 1)⟩] none) .ret))
def ir51 : IFn:={ np:=1,nv:=2,slots:=[0,2],res:=[.v 1],body:=c51 }
def ks51 : List (List Nat):=[]
def hi51 : Hint:={ own:=false,fb:=false,dyn:=.pure,md:=[] }
def c52 : IR:=(.seq (.region [ ⟨(some 1),none,.mv (.k (.nil))⟩] none) (.seq (.region [ ⟨none,none,.mv (.var 0)⟩,⟨none,none,.append 1 8 (.k (.nil)) (.loc 0)⟩,⟨(some 1),none,.mv (.loc 1)⟩] none) .ret))
def ir52 : IFn:={ np:=1,nv:=2,slots:=[0,2],res:=[.v 1],body:=c52 }
def ks52 : List (List Nat):=[]
def hi52 : Hint:={ own:=false,fb:=false,dyn:=.pure,md:=[] }
def d53_0 : IR:=(.seq (.region [ ⟨(some 8),none,.bin .lss (.var 7) (.var 6)⟩] none) (.seq (.cond (.var 8) .skip (.exit 0)) (.seq (.block 1 (.seq (.region [ ⟨none,none,.mv (.var 7)⟩,⟨(some 4),none,.mv (.loc 0)⟩] none) (.region [ ⟨none,none,.mv (.var 3)⟩,⟨none,none,.mv (.var 0)⟩,⟨none,none,.nilck (.loc 1)⟩,⟨none,none,.faddr 0 (.loc 2)⟩,⟨none,none,.load false 1 (.loc 3)⟩,⟨none,none,.mv (.var 4)⟩,⟨none,none,.iaddr none 1 (.loc 4) (.loc 5)⟩,⟨none,none,.load false 1 (.loc 6)⟩,⟨none,none,.conv .u64 (.loc 7)⟩,⟨none,none,.mv (.var 4)⟩,⟨none,none,.bin .mul (.k (.int .i64 8)) (.loc 9)⟩,⟨none,none,.bin .shl (.loc 8) (.loc 10)⟩,⟨none,none,.bin .or (.loc 0) (.loc 11)⟩,⟨(some 3),none,.mv (.loc 12)⟩] none))) (.region [ ⟨none,none,.bin .add (.var 7) (.k (.int .i64 1))⟩,⟨(some 7),none,.mv (.loc 0)⟩] none))))
def b53_0 : IR:=d53_0
def c53 : IR:=(.seq (.region [ ⟨(some 2),none,.mv (.k (.int .u64 0))⟩] none) (.seq (.seq (.region [ ⟨none,none,.mv (.var 0)⟩,⟨none,none,.nilck (.loc 0)⟩,⟨none,none,.faddr 0 (.loc 1)⟩,⟨none,none,.load false 1 (.loc 2)⟩,⟨none,none,.len .sl (.loc 3)⟩,⟨none,none,.mv (.var 1)⟩,⟨(some 5),none,.bin .lss (.loc 4) (.loc 5)⟩] none) (.cond (.var 5) (.seq (.region [ ⟨none,none,.mv (.var 0)⟩,⟨none,none,.nilck (.loc 0)⟩,⟨none,none,.faddr 1 (.loc 1)⟩,⟨none,none,.store 1 (.loc 2) (.k (.bool true))⟩] none) (.seq (.region [ ⟨none,none,.mv (.var 0)⟩,⟨none,none,.nilck (.loc 0)⟩,⟨none,none,.faddr 0 (.loc 1)⟩,⟨none,none,.store 1 (.loc 2) (.k (.nil))⟩] none) (.seq (.region [ ⟨(some 2),none,.mv (.k (.int .u64 0))⟩] none) .ret))) .skip)) (.seq (.region [ ⟨(some 3),none,.mv (.k (.int .u64 0))⟩] none) (.seq (.seq (.region [ ⟨(some 6),none,.mv (.var 1)⟩,⟨(some 7),none,.mv (.k (.int .i64 0))⟩] none) (.block 0 (.loop [1,1,0,1,0,0,1,1,0] [1,1,0,1,0,0,0,0,0] b53_0))) (.seq (.region [ ⟨none,none,.mv (.var 0)⟩,⟨none,none,.mv (.var 0)⟩,⟨none,none,.nilck (.loc 1)⟩,⟨none,none,.faddr 0 (.loc 2)⟩,⟨none,none,.load false 1 (.loc 3)⟩,⟨none,none,.mv (.var 1)⟩,⟨none,none,.slice none 1 (.loc 4) (some (.loc 5)) none none⟩,⟨none,none,.nilck (.loc 0)⟩,⟨none,none,.faddr 0 (.loc 7)⟩,⟨none,none,.store 1 (.loc 8) (.loc 6)⟩] none) (.seq (.region [ ⟨none,none,.mv (.var 3)⟩,⟨(some 2),none,.mv (.loc 0)⟩] none) .ret))))))
def ir53 : IFn:={ np:=2,nv:=9,slots:=[0,1,4,5,6,13,20,21,22],res:=[.v 2],body:=c53 }
def ks53 : List (List Nat):=[[1,1,0,1,0,0,1,1,0],[1,1,0,1,0,0,0,0,0]]
def hi53 : Hint:={ own:=false,fb:=false,dyn:=.pure,md:=[] }
def c54 : IR:=(.seq (.region [ ⟨(some 2),none,.mv (.k (.int .i64 0))⟩] none) (.seq (.seq (.region [ ⟨(some 3),none,.mv (.var 0)⟩] none) (.cond (.var 3) (.seq (.region [ ⟨none,none,.mv (.var 1)⟩,⟨(some 2),none,.mv (.loc 0)⟩] none) .ret) .skip)) (.seq (.region [ ⟨(some 2),none,.mv (.k (.int .i64 0))⟩] none) .ret)))
def ir54 : IFn:={ np:=2,nv:=4,slots:=[0,1,4,5],res:=[.v 2],body:=c54 }
def ks54 : List (List Nat):=[]
def hi54 : Hint:={ own:=false,fb:=true,dyn:=.pure,md:=[] }
def d55_0 : IR:=(.seq (.region [ ⟨(some 6),none,.bin .lss (.var 5) (.var 4)⟩] none) (.seq (.cond (.var 6) .skip (.exit 0)) (.seq (.block 1 (.seq (.region [ ⟨none,none,.iaddr none 1 (.var 3) (.var 5)⟩,⟨none,none,.load false 1 (.loc 0)⟩,⟨(some 2),none,.mv (.loc 1)⟩] none) (.seq (.region [ ⟨none,none,.mv (.var 2)⟩,⟨(some 7),none,.bin .neq (.loc 0) (.k (.int .i64 0))⟩] none) (.cond (.var 7) (.seq (.region [ ⟨none,none,.mv (.var 2)⟩,⟨(some 1),none,.mv (.loc 0)⟩] none) .ret) .skip)))) (.region [ ⟨none,none,.bin .add (.var 5) (.k (.int .i64 1))⟩,⟨(some 5),none,.mv (.loc 0)⟩] none))))
def b55_0 : IR:=d55_0
def c55 : IR:=(.seq (.region [ ⟨(some 1),none,.mv (.k (.int .i64 0))⟩] none) (.seq (.seq (.region [ ⟨(some 3),none,.mv (.var 0)⟩,⟨(some 4),none,.len .sl (.var 3)⟩,⟨(some 5),none,.mv (.k (.int .i64 0))⟩] none) (.block 0 (.loop [0,0,0,1,1,1,0,0] [0,1,0,0,0,0,0,0] b55_0))) (.seq (.region [ ⟨(some 1),none,.mv (.k (.int .i64 0))⟩] none) .ret)))
def ir55 : IFn:={ np:=1,nv:=8,slots:=[0,2,4,5,6,7,8,12],res:=[.v 1],body:=c55 }
def ks55 : List (List Nat):=[[0,0,0,1,1,1,0,0],[0,1,0,0,0,0,0,0]]
def hi55 : Hint:={ own:=false,fb:=true,dyn:=.pure,md:=[] }
def c56 : IR:=(.seq (.region [ ⟨(some 1),none,.mv (.k (.int .i64 0))⟩] none) (.seq (.region [ ⟨none,none,.mv (.var 0)⟩,⟨none,none,.call .pure (.k (.fn 93 [] [])) [(.loc 0)]⟩,⟨none,none,.un .not (.loc 1)⟩,⟨none,none,.call .pure (.k (.fn 92 [] [])) [(.loc 2),(.k (.int .i64 11))]⟩,⟨(some 1),none,.mv (.loc 3)⟩] none) .ret))
def ir56 : IFn:={ np:=1,nv:=2,slots:=[0,2],res:=[.v 1],body:=c56 }
def ks56 : List (List Nat):=[]
def hi56 : Hint:={ own:=false,fb:=false,dyn:=.pure,md:=[] }
def c57 : IR:=(.seq (.region [ ⟨(some 3),none,.mv (.k (.bool false))⟩] none) (.seq (.region [ ⟨none,none,.mv (.var 0)⟩,⟨none,none,.mv (.var 1)⟩,⟨none,none,.bin .geq (.loc 0) (.loc 1)⟩,⟨none,none,.mv (.loc 2)⟩,⟨none,some (3,true),.mv (.var 0)⟩,⟨none,some (3,true),.mv (.var 2)⟩,⟨none,some (3,true),.bin .leq (.loc 4) (.loc 5)⟩,⟨none,none,.pick (.loc 3) (.loc 6) (.k (.bool false))⟩,⟨(some 3),none,.mv (.loc 7)⟩] none) .ret))
def ir57 : IFn:={ np:=3,nv:=4,slots:=[0,1,2,6],res:=[.v 3],body:=c57 }
def ks57 : List (List Nat):=[]
def hi57 : Hint:={ own:=false,fb:=true,dyn:=.pure,md:=[] }
def d58_0 : IR:=(.seq (.region [ ⟨(some 8),none,.bin .lss (.var 7) (.var 6)⟩] none) (.seq (.cond (.var 8) .skip (.exit 0)) (.seq (.block 1 (.seq (.region [ ⟨none,none,.iaddr none 2 (.var 5) (.var 7)⟩,⟨none,none,.load true 2 (.loc 0)⟩,⟨(some 4),none,.alloc [.int .i64 0,.int .i64 0]⟩,⟨none,none,.store 2 (.var 4) (.loc 1)⟩] none) (.seq (.region [ ⟨none,none,.mv (.var 2)⟩,⟨none,none,.mv (.var 3)⟩,⟨none,none,.bslice false 1 [.int .i64 0] 1 [(0,(.loc 1))]⟩,⟨none,none,.append 1 8 (.loc 0) (.loc 2)⟩,⟨(some 2),none,.mv (.loc 3)⟩] none) (.region [ ⟨none,none,.mv (.var 3)⟩,⟨none,none,.faddr 1 (.var 4)⟩,⟨none,none,.load false 1 (.loc 1)⟩,⟨none,none,.bin .mul (.loc 0) (.loc 2)⟩,⟨(some 3),none,.mv (.loc 3)⟩] none)))) (.region [ ⟨none,none,.bin .add (.var 7) (.k (.int .i64 1))⟩,⟨(some 7),none,.mv (.loc 0)⟩] none))))
def b58_0 : IR:=d58_0
def c58 : IR:=(.seq (.region [ ⟨(some 1),none,.mv (.k (.nil))⟩] none) (.seq (.region [ ⟨(some 2),none,.mv (.k (.nil))⟩] none) (.seq (.region [ ⟨(some 3),none,.mv (.k (.int .i64 1))⟩] none) (.seq (.seq (.region [ ⟨(some 5),none,.mv (.var 0)⟩,⟨(some 6),none,.len .sl (.var 5)⟩,⟨(some 7),none,.mv (.k (.int .i64 0))⟩] none) (.block 0 (.loop [0,0,1,1,0,1,1,1,0] [0,0,1,0,0,0,0,0,0] b58_0))) (.seq (.region [ ⟨none,none,.mv (.var 2)⟩,⟨(some 1),none,.mv (.loc 0)⟩] none) .ret)))))
def ir58 : IFn:={ np:=1,nv:=9,slots:=[0,2,3,4,6,7,8,9,10],res:=[.v 1],body:=c58 }
def ks58 : List (List Nat):=[[0,0,1,1,0,1,1,1,0],[0,0,1,0,0,0,0,0,0]]
def hi58 : Hint:={ own:=false,fb:=true,dyn:=.pure,md:=[] }
def d59_0 : IR:=(.seq (.region [ ⟨(some 7),none,.bin .lss (.var 6) (.var 5)⟩] none) (.seq (.cond (.var 7) .skip (.exit 0)) (.seq (.block 1 (.seq (.region [ ⟨none,none,.iaddr none 2 (.var 4) (.var 6)⟩,⟨none,none,.load true 2 (.loc 0)⟩,⟨(some 3),none,.alloc [.int .i64 0,.int .i64 0]⟩,⟨none,none,.store 2 (.var 3) (.loc 1)⟩] none) (.region [ ⟨none,none,.mv (.var 2)⟩,⟨none,none,.faddr 1 (.var 3)⟩,⟨none,none,.load false 1 (.loc 1)⟩,⟨none,none,.bin .mul (.loc 0) (.loc 2)⟩,⟨(some 2),none,.mv (.loc 3)⟩] none))) (.region [ ⟨none,none,.bin .add (.var 6) (.k (.int .i64 1))⟩,⟨(some 6),none,.mv (.loc 0)⟩] none))))
def b59_0 : IR:=d59_0
def c59 : IR:=(.seq (.region [ ⟨(some 1),none,.mv (.k (.int .i64 0))⟩] none) (.seq (.region [ ⟨(some 2),none,.mv (.k (.int .i64 1))⟩] none) (.seq (.seq (.region [ ⟨(some 4),none,.mv (.var 0)⟩,⟨(some 5),none,.len .sl (.var 4)⟩,⟨(some 6),none,.mv (.k (.int .i64 0))⟩] none) (.block 0 (.loop [0,0,1,0,1,1,1,0] [0,0,1,0,0,0,0,0] b59_0))) (.seq (.region [ ⟨none,none,.mv (.var 2)⟩,⟨(some 1),none,.mv (.loc 0)⟩] none) .ret))))
def ir59 : IFn:={ np:=1,nv:=8,slots:=[0,2,3,5,6,7,8,9],res:=[.v 1],body:=c59 }
def ks59 : List (List Nat):=[[0,0,1,0,1,1,1,0],[0,0,1,0,0,0,0,0]]
def hi59 : Hint:={ own:=false,fb:=true,dyn:=.pure,md:=[] }
def d60_0 : IR:=(.seq (.seq (.region [ ⟨none,none,.mv (.var 3)⟩,⟨none,none,.bin .mul (.k (.int .i64 8)) (.loc 0)⟩,⟨none,none,.mv (.var 2)⟩,⟨(some 4),none,.bin .lss (.loc 1) (.loc 2)⟩] none) (.cond (.var 4) .skip (.exit 0))) (.block 1 (.region [ ⟨none,none,.mv (.var 3)⟩,⟨none,none,.bin .mul (.loc 0) (.k (.int .i64 2))⟩,⟨(some 3),none,.mv (.loc 1)⟩] none)))
def b60_0 : IR:=d60_0
def c60 : IR:=(.seq (.region [ ⟨(some 1),none,.mv (.k (.int .i64 0))⟩] none) (.seq (.region [ ⟨none,none,.mv (.var 0)⟩,⟨none,none,.call .pure (.k (.fn 94 [] [])) [(.loc 0)]⟩,⟨none,none,.mv (.loc 1)⟩,⟨none,none,.extract (.loc 2) 0⟩,⟨none,none,.extract (.loc 2) 1⟩,⟨(some 2),none,.mv (.loc 3)⟩,⟨none,none,.mv (.loc 4)⟩] none) (.seq (.region [ ⟨(some 3),none,.mv (.k (.int .i64 1))⟩] none) (.seq (.block 0 (.loop [0,0,1,1,0] [0,0,0,1,0] b60_0)) (.seq (.region [ ⟨none,none,.mv (.var 3)⟩,⟨(some 1),none,.mv (.loc 0)⟩] none) .ret)))))
def ir60 : IFn:={ np:=1,nv:=5,slots:=[0,2,3,5,14],res:=[.v 1],body:=c60 }
def ks60 : List (List Nat):=[[0,0,1,1,0],[0,0,0,1,0]]
def hi60 : Hint:={ own:=false,fb:=true,dyn:=.pure,md:=[] }
def c61 : IR:=(.seq (.region [ ⟨(some 2),none,.mv (.k (.int .i64 0))⟩] none) (.seq (.region [ ⟨none,none,.mv (.var 0)⟩,⟨none,none,.mv (.var 1)⟩,⟨none,none,.build [.int .i64 0,.int .u64 0] [(0,1,(.loc 0)),(1,1,(.loc 1))]⟩,⟨none,none,.call .pure (.k (.fn 73 [] [])) [(.loc 2)]⟩,⟨none,none,.bin .neq (.loc 3) (.k (.int .i64 0))⟩,⟨none,none,.call .pure (.k (.fn 54 [] [])) [(.loc 4),(.k (.int .i64 1))]⟩,⟨(some 2),none,.mv (.loc 5)⟩] none) .ret))
def ir61 : IFn:={ np:=2,nv:=3,slots:=[0,1,4],res:=[.v 2],body:=c61 }
def ks61 : List (List Nat):=[]
def hi61 : Hint:={ own:=false,fb:=true,dyn:=.pure,md:=[] }
def c62 : IR:=(.seq (.region [ ⟨(some 3),none,.boxi (.var 0)⟩,⟨(some 4),none,.boxi (.var 1)⟩,⟨(some 2),none,.mv (.k (.int .u64 0))⟩] none) (.seq (.region [ ⟨none,none,.faddr 0 (.var 3)⟩,⟨none,none,.faddr 3 (.loc 0)⟩,⟨none,none,.load false 1 (.loc 1)⟩,⟨none,none,.faddr 0 (.var 3)⟩,⟨none,none,.faddr 1 (.loc 3)⟩,⟨none,none,.load false 1 (.loc 4)⟩,⟨none,none,.faddr 0 (.var 3)⟩,⟨none,none,.faddr 2 (.loc 6)⟩,⟨none,none,.load false 1 (.loc 7)⟩,⟨none,none,.load true 3 (.var 4)⟩,⟨none,none,.call .pure (.k (.fn 82 [] [])) [(.loc 5),(.loc 8),(.loc 9)]⟩,⟨none,none,.iaddr none 1 (.loc 2) (.loc 10)⟩,⟨none,none,.load false 1 (.loc 11)⟩,⟨(some 2),none,.mv (.loc 12)⟩] (some (14,[]))) .ret))
def ir62 : IFn:={ np:=2,nv:=5,slots:=[0,1,4,2,3],res:=[.v 2],body:=c62 }
def ks62 : List (List Nat):=[]
def hi62 : Hint:={ own:=false,fb:=true,dyn:=.pure,md:=[] }
def d63_0 : IR:=(.region [ ⟨(some 6),none,.alloc [.int .i64 0,.int .i64 0,.int .i64 0]⟩,⟨none,none,.store 3 (.var 6) (.var 9)⟩] none)
def b63_0 : IR:=d63_0
def d63_1 : IR:=(.block 1 (.region [ ⟨none,none,.faddr 3 (.var 5)⟩,⟨none,none,.load false 1 (.loc 0)⟩,⟨none,none,.load false 1 (.var 4)⟩,⟨none,none,.load true 3 (.var 6)⟩,⟨none,none,.call .pure (.loc 2) [(.loc 3)]⟩,⟨none,none,.bslice false 1 [.int .u64 0] 1 [(0,(.loc 4))]⟩,⟨none,none,.append 1 8 (.loc 1) (.loc 5)⟩,⟨none,none,.faddr 3 (.var 5)⟩,⟨none,none,.store 1 (.loc 7) (.loc 6)⟩] (some (6,[]))))
def b63_1 : IR:=d63_1
def c63 : IR:=(.seq (.region [ ⟨(some 4),none,.boxi (.var 2)⟩,⟨(some 3),none,.alloc [.int .i64 0,.nil,.nil,.nil]⟩] none) (.seq (.region [ ⟨none,none,.mv (.var 0)⟩,⟨none,none,.mv (.var 1)⟩,⟨none,none,.call .imp (.k (.fn 66 [] [])) [(.loc 1)]⟩,⟨none,none,.mv (.var 1)⟩,⟨none,none,.call .pure (.k (.fn 58 [] [])) [(.loc 3)]⟩,⟨none,none,.build [.int .i64 0,.nil,.nil,.nil] [(0,1,(.loc 0)),(1,1,(.loc 2)),(2,1,(.loc 4))]⟩,⟨(some 5),none,.alloc [.int .i64 0,.nil,.nil,.nil]⟩,⟨none,none,.store 4 (.var 5) (.loc 5)⟩] none) (.seq (.seq (.region [ ⟨none,none,.mv (.var 1)⟩,⟨(some 7),none,.call .pure (.k (.fn 65 [] [])) [(.loc 0)]⟩] none) (.block 0 (.rfunc (.var 7) [8,9] b63_0 b63_1))) (.seq (.region [ ⟨none,none,.load true 4 (.var 5)⟩,⟨none,none,.store 4 (.var 3) (.loc 0)⟩] none) .ret))))
def ir63 : IFn:={ np:=3,nv:=10,slots:=[0,1,2,6,5,7,9,17,18,19],res:=[.cell 3 true 4],body:=c63 }
def ks63 : List (List Nat):=[]
def hi63 : Hint:={ own:=false,fb:=true,dyn:=.pure,md:=[(66,.imp)] }
def c64 : IR:=(.seq (.region [ ⟨(some 3),none,.boxi (.var 0)⟩,⟨(some 4),none,.boxi (.var 1)⟩,⟨(some 2),none,.mv (.k (.bool false))⟩] none) (.seq (.region [ ⟨none,none,.load true 2 (.var 3)⟩,⟨none,none,.load true 2 (.var 4)⟩,⟨none,none,.eqs false (.agg [(0,(.agg [(0,.int),(1,.int)]))]) (.loc 0) (.loc 1)⟩,⟨(some 2),none,.mv (.loc 2)⟩] none) .ret))
def ir64 : IFn:={ np:=2,nv:=5,slots:=[0,1,4,2,3],res:=[.v 2],body:=c64 }
def ks64 : List (List Nat):=[]
def hi64 : Hint:={ own:=false,fb:=true,dyn:=.pure,md:=[] }
def c65 : IR:=(.seq (.region [ ⟨(some 2),none,.boxi (.var 0)⟩,⟨(some 1),none,.mv (.k (.nilf))⟩] none) (.seq (.region [ ⟨none,none,.mkfn 95 [] [(.var 2)]⟩,⟨(some 1),none,.mv (.loc 0)⟩] none) .ret))
def ir65 : IFn:={ np:=1,nv:=3,slots:=[0,2,1],res:=[.v 1],body:=c65 }
def ks65 : List (List Nat):=[]
def hi65 : Hint:={ own:=false,fb:=true,dyn:=.pure,md:=[] }
def c66 : IR:=(.seq (.region [ ⟨(some 1),none,.mv (.k (.nil))⟩] none) (.seq (.seq (.region [ ⟨none,none,.mv (.var 0)⟩,⟨(some 2),none,.eqs false .nilsl (.loc 0) (.k (.nil))⟩] none) (.cond (.var 2) (.seq (.region [ ⟨(some 1),none,.mv (.k (.nil))⟩] none) .ret) .skip)) (.seq (.region [ ⟨none,none,.bslice false 2 [.int .i64 0,.int .i64 0] 0 []⟩,⟨none,none,.mv (.var 0)⟩,⟨none,none,.append 2 16 (.loc 0) (.loc 1)⟩,⟨(some 1),none,.mv (.loc 2)⟩] none) .ret)))
def ir66 : IFn:={ np:=1,nv:=3,slots:=[0,2,4],res:=[.v 1],body:=c66 }
def ks66 : List (List Nat):=[]
def hi66 : Hint:={ own:=false,fb:=false,dyn:=.pure,md:=[] }
def c67 : IR:=(.seq (.region [ ⟨(some 5),none,.box (.var 0)⟩,⟨(some 4),none,.mv (.k (.int .u64 0))⟩] none) (.seq (.region [ ⟨none,none,.load false 1 (.var 2)⟩,⟨none,none,.load false 1 (.var 1)⟩,⟨none,none,.load false 1 (.var 1)⟩,⟨none,none,.iaddr (some 3) 1 (.var 5) (.loc 2)⟩,⟨none,none,.load false 1 (.loc 3)⟩,⟨none,none,.load false 1 (.var 2)⟩,⟨none,none,.iaddr (some 3) 1 (.var 5) (.loc 5)⟩,⟨none,none,.load false 1 (.loc 6)⟩,⟨none,none,.iaddr (some 3) 1 (.var 5) (.loc 0)⟩,⟨none,none,.store 1 (.loc 8) (.loc 4)⟩,⟨none,none,.iaddr (some 3) 1 (.var 5) (.loc 1)⟩,⟨none,none,.store 1 (.loc 10) (.loc 7)⟩] (some (9,[1]))) (.seq (.region [ ⟨none,none,.load true 4 (.var 3)⟩,⟨none,none,.build [.int .i64 0,.nil,.nil,.nil] [(0,4,(.loc 0))]⟩,⟨none,none,.load true 3 (.var 5)⟩,⟨none,none,.call .pure (.k (.fn 62 [] [])) [(.loc 1),(.loc 2)]⟩,⟨(some 4),none,.mv (.loc 3)⟩] none) .ret)))
def ir67 : IFn:={ np:=4,nv:=6,slots:=[0,1,2,3,5,4],res:=[.v 4],body:=c67 }
def ks67 : List (List Nat):=[]
def hi67 : Hint:={ own:=false,fb:=false,dyn:=.pure,md:=[] }
def d68_0 : IR:=(.seq (.region [ ⟨(some 7),none,.bin .lss (.var 6) (.var 5)⟩] none) (.seq (.cond (.var 7) .skip (.exit 0)) (.seq (.block 1 (.seq (.region [ ⟨none,none,.mv (.var 6)⟩,⟨(some 3),none,.mv (.loc 0)⟩] none) (.seq (.region [ ⟨none,none,.mv (.var 0)⟩,⟨none,none,.mv (.var 3)⟩,⟨none,none,.iaddr none 2 (.loc 0) (.loc 1)⟩,⟨none,none,.load true 2 (.loc 2)⟩,⟨none,none,.mv (.var 1)⟩,⟨none,none,.mv (.var 3)⟩,⟨none,none,.iaddr none 2 (.loc 4) (.loc 5)⟩,⟨none,none,.load true 2 (.loc 6)⟩,⟨(some 8),none,.eqs true (.agg [(0,.int),(1,.int)]) (.loc 3) (.loc 7)⟩] (some (9,[]))) (.cond (.var 8) (.seq (.region [ ⟨(some 2),none,.mv (.k (.bool false))⟩] none) .ret) .skip)))) (.region [ ⟨none,none,.bin .add (.var 6) (.k (.int .i64 1))⟩,⟨(some 6),none,.mv (.loc 0)⟩] none))))
def b68_0 : IR:=d68_0
def c68 : IR:=(.seq (.region [ ⟨(some 2),none,.mv (.k (.bool false))⟩] none) (.seq (.seq (.region [ ⟨none,none,.mv (.var 0)⟩,⟨none,none,.len .sl (.loc 0)⟩,⟨none,none,.mv (.var 1)⟩,⟨none,none,.len .sl (.loc 2)⟩,⟨(some 4),none,.bin .neq (.loc 1) (.loc 3)⟩] none) (.cond (.var 4) (.seq (.region [ ⟨(some 2),none,.mv (.k (.bool false))⟩] none) .ret) .skip)) (.seq (.seq (.region [ ⟨none,none,.mv (.var 0)⟩,⟨(some 5),none,.len .sl (.loc 0)⟩,⟨(some 6),none,.mv (.k (.int .i64 0))⟩] none) (.block 0 (.loop [1,1,0,0,0,1,1,0,0] [0,0,1,0,0,0,0,0,0] b68_0))) (.seq (.region [ ⟨(some 2),none,.mv (.k (.bool true))⟩] none) .ret))))
def ir68 : IFn:={ np:=2,nv:=9,slots:=[0,1,4,5,10,12,13,14,24],res:=[.v 2],body:=c68 }
def ks68 : List (List Nat):=[[1,1,0,0,0,1,1,0,0],[0,0,1,0,0,0,0,0,0]]
def hi68 : Hint:={ own:=false,fb:=false,dyn:=.pure,md:=[] }
def d69_0 : IR:=(.seq (.region [ ⟨(some 8),none,.bin .lss (.var 7) (.var 6)⟩] none) (.seq (.cond (.var 8) .skip (.exit 0)) (.seq (.block 1 (.seq (.region [ ⟨none,none,.mv (.var 7)⟩,⟨(some 5),none,.mv (.loc 0)⟩] none) (.region [ ⟨none,none,.mv (.var 4)⟩,⟨none,none,.mv (.var 2)⟩,⟨none,none,.mv (.var 0)⟩,⟨none,none,.mv (.var 5)⟩,⟨none,none,.iaddr none 2 (.loc 2) (.loc 3)⟩,⟨none,none,.load true 2 (.loc 4)⟩,⟨none,none,.mv (.var 1)⟩,⟨none,none,.mv (.var 5)⟩,⟨none,none,.iaddr none 2 (.loc 6) (.loc 7)⟩,⟨none,none,.load true 2 (.loc 8)⟩,⟨none,none,.call .pure (.loc 1) [(.loc 5),(.loc 9)]⟩,⟨none,none,.bslice false 2 [.int .i64 0,.int .i64 0] 1 [(0,(.loc 10))]⟩,⟨none,none,.append 2 16 (.loc 0) (.loc 11)⟩,⟨(some 4),none,.mv (.loc 12)⟩] (some (12,[]))))) (.region [ ⟨none,none,.bin .add (.var 7) (.k (.int .i64 1))⟩,⟨(some 7),none,.mv (.loc 0)⟩] none))))
def b69_0 : IR:=d69_0
def c69 : IR:=(.seq (.region [ ⟨(some 3),none,.mv (.k (.nil))⟩] none) (.seq (.region [ ⟨(some 4),none,.mv (.k (.nil))⟩] none) (.seq (.seq (.region [ ⟨none,none,.mv (.var 0)⟩,⟨(some 6),none,.len .sl (.loc 0)⟩,⟨(some 7),none,.mv (.k (.int .i64 0))⟩] none) (.block 0 (.loop [1,1,1,0,1,0,1,1,0] [0,0,0,0,1,0,0,0,0] b69_0))) (.seq (.region [ ⟨none,none,.mv (.var 4)⟩,⟨(some 3),none,.mv (.loc 0)⟩] none) .ret))))
def ir69 : IFn:={ np:=3,nv:=9,slots:=[0,1,2,6,7,8,10,11,12],res:=[.v 3],body:=c69 }
def ks69 : List (List Nat):=[[1,1,1,0,1,0,1,1,0],[0,0,0,0,1,0,0,0,0]]
def hi69 : Hint:={ own:=false,fb:=true,dyn:=.pure,md:=[] }
def c70 : IR:=(.seq (.region [ ⟨(some 3),none,.boxi (.var 0)⟩,⟨(some 4),none,.boxi (.var 1)⟩,⟨(some 2),none,.alloc [.int .i64 0,.int .i64 0]⟩] none) (.seq (.region [ ⟨none,none,.faddr 0 (.var 3)⟩,⟨none,none,.load false 1 (.loc 0)⟩,⟨none,none,.faddr 0 (.var 4)⟩,⟨none,none,.load false 1 (.loc 2)⟩,⟨none,none,.mnmx false (.loc 1) (.loc 3)⟩,⟨(some 5),none,.mv (.loc 4)⟩] none) (.seq (.region [ ⟨none,none,.mv (.var 5)⟩,⟨none,none,.faddr 0 (.var 3)⟩,⟨none,none,.load false 1 (.loc 1)⟩,⟨none,none,.faddr 1 (.var 3)⟩,⟨none,none,.load false 1 (.loc 3)⟩,⟨none,none,.bin .add (.loc 2) (.loc 4)⟩,⟨none,none,.faddr 0 (.var 4)⟩,⟨none,none,.load false 1 (.loc 6)⟩,⟨none,none,.faddr 1 (.var 4)⟩,⟨none,none,.load false 1 (.loc 8)⟩,⟨none,none,.bin .add (.loc 7) (.loc 9)⟩,⟨none,none,.mnmx true (.loc 5) (.loc 10)⟩,⟨none,none,.mv (.var 5)⟩,⟨none,none,.bin .sub (.loc 11) (.loc 12)⟩,⟨none,none,.mnmx false (.loc 13) (.k (.int .i64 0))⟩,⟨none,none,.build [.int .i64 0,.int .i64 0] [(0,1,(.loc 0)),(1,1,(.loc 14))]⟩,⟨none,none,.store 2 (.var 2) (.loc 15)⟩] none) .ret)))
def ir70 : IFn:={ np:=2,nv:=6,slots:=[0,1,4,2,3,5],res:=[.cell 2 true 2],body:=c70 }
def ks70 : List (List Nat):=[]
def hi70 : Hint:={ own:=false,fb:=true,dyn:=.pure,md:=[] }
def c71 : IR:=(.seq (.region [ ⟨(some 1),none,.mv (.k (.bool false))⟩] none) (.seq (.region [ ⟨none,none,.mv (.var 0)⟩,⟨none,none,.call .pure (.k (.fn 57 [] [])) [(.loc 0),(.k (.int .i64 (-1048576))),(.k (.int .i64 1048576))]⟩,⟨none,none,.un .not (.loc 1)⟩,⟨(some 1),none,.mv (.loc 2)⟩] none) .ret))
def ir71 : IFn:={ np:=1,nv:=2,slots:=[0,2],res:=[.v 1],body:=c71 }
def ks71 : List (List Nat):=[]
def hi71 : Hint:={ own:=false,fb:=true,dyn:=.pure,md:=[] }
def c72 : IR:=(.seq (.region [ ⟨(some 2),none,.mv (.k (.bool false))⟩] none) (.seq (.region [ ⟨none,none,.mv (.var 0)⟩,⟨none,none,.mv (.var 1)⟩,⟨none,none,.call .pure (.k (.fn 96 [] [])) [(.loc 0),(.loc 1)]⟩,⟨none,none,.bin .geq (.loc 2) (.k (.int .i64 0))⟩,⟨(some 2),none,.mv (.loc 3)⟩] none) .ret))
def ir72 : IFn:={ np:=2,nv:=3,slots:=[0,1,4],res:=[.v 2],body:=c72 }
def ks72 : List (List Nat):=[]
def hi72 : Hint:={ own:=false,fb:=false,dyn:=.pure,md:=[] }
def c73 : IR:=(.seq (.region [ ⟨(some 2),none,.boxi (.var 0)⟩,⟨(some 1),none,.mv (.k (.int .i64 0))⟩] none) (.seq (.seq (.region [ ⟨none,none,.faddr 0 (.var 2)⟩,⟨none,none,.load false 1 (.loc 0)⟩,⟨none,none,.call .pure (.k (.fn 93 [] [])) [(.loc 1)]⟩,⟨(some 3),none,.un .not (.loc 2)⟩] none) (.cond (.var 3) (.seq (.region [ ⟨(some 1),none,.mv (.k (.int .i64 11))⟩] none) .ret) .skip)) (.seq (.region [ ⟨none,none,.faddr 0 (.var 2)⟩,⟨none,none,.load false 1 (.loc 0)⟩,⟨none,none,.faddr 1 (.var 2)⟩,⟨none,none,.load false 1 (.loc 2)⟩,⟨none,none,.call .pure (.k (.fn 97 [] [])) [(.loc 1),(.loc 3)]⟩,⟨none,none,.un .not (.loc 4)⟩,⟨none,none,.call .pure (.k (.fn 92 [] [])) [(.loc 5),(.k (.int .i64 1))]⟩,⟨(some 1),none,.mv (.loc 6)⟩] none) .ret)))
def ir73 : IFn:={ np:=1,nv:=4,slots:=[0,2,1,6],res:=[.v 1],body:=c73 }
def ks73 : List (List Nat):=[]
def hi73 : Hint:={ own:=false,fb:=true,dyn:=.pure,md:=[] }
def d74_0 : IR:=(.seq (.region [ ⟨(some 10),none,.bin .lss (.var 9) (.var 8)⟩] none) (.seq (.cond (.var 10) .skip (.exit 0)) (.seq (.block 1 (.seq (.region [ ⟨none,none,.mv (.var 9)⟩,⟨none,none,.iaddr none 2 (.var 7) (.var 9)⟩,⟨none,none,.load true 2 (.loc 1)⟩,⟨(some 6),none,.alloc [.int .i64 0,.int .i64 0]⟩,⟨(some 5),none,.mv (.loc 0)⟩,⟨none,none,.store 2 (.var 6) (.loc 2)⟩] none) (.region [ ⟨none,none,.mv (.var 5)⟩,⟨none,none,.mv (.var 1)⟩,⟨none,none,.iaddr (some 3) 2 (.k (.ptr [.int .i64 0,.fn 128 [] [],.int .i64 1,.fn 129 [] [],.int .i64 2,.fn 131 [] []])) (.loc 1)⟩,⟨none,none,.faddr 1 (.loc 2)⟩,⟨none,none,.load false 1 (.loc 3)⟩,⟨none,none,.load true 2 (.var 6)⟩,⟨none,none,.mv (.var 2)⟩,⟨none,none,.mv (.var 5)⟩,⟨none,none,.iaddr none 1 (.loc 6) (.loc 7)⟩,⟨none,none,.load false 1 (.loc 8)⟩,⟨none,none,.call .pure (.loc 4) [(.loc 5),(.loc 9)]⟩,⟨none,none,.iaddr (some 3) 1 (.var 4) (.loc 0)⟩,⟨none,none,.store 1 (.loc 11) (.loc 10)⟩] (some (12,[]))))) (.region [ ⟨none,none,.bin .add (.var 9) (.k (.int .i64 1))⟩,⟨(some 9),none,.mv (.loc 0)⟩] none))))
def b74_0 : IR:=d74_0
def c74 : IR:=(.seq (.region [ ⟨(some 3),none,.alloc [.int .i64 0,.int .i64 0,.int .i64 0]⟩] none) (.seq (.region [ ⟨(some 4),none,.alloc [.int .i64 0,.int .i64 0,.int .i64 0]⟩] none) (.seq (.seq (.region [ ⟨(some 7),none,.mv (.var 0)⟩,⟨(some 8),none,.len .sl (.var 7)⟩,⟨(some 9),none,.mv (.k (.int .i64 0))⟩] none) (.block 0 (.loop [0,1,1,1,1,0,0,1,1,1,0] [0,0,0,1,1,0,0,0,0,0,0] b74_0))) (.seq (.region [ ⟨none,none,.load true 3 (.var 4)⟩,⟨none,none,.store 3 (.var 3) (.loc 0)⟩] none) .ret))))
def ir74 : IFn:={ np:=3,nv:=11,slots:=[0,1,2,6,7,8,9,10,11,12,13],res:=[.cell 3 true 3],body:=c74 }
def ks74 : List (List Nat):=[[0,1,1,1,1,0,0,1,1,1,0],[0,0,0,1,1,0,0,0,0,0,0]]
def hi74 : Hint:={ own:=false,fb:=true,dyn:=.pure,md:=[] }
def c75 : IR:=(.seq (.region [ ⟨(some 1),none,.alloc [.int .i64 0,.int .i64 0,.int .i64 0]⟩] none) (.seq (.region [ ⟨(some 2),none,.alloc [.int .i64 0,.int .i64 0,.int .i64 0]⟩] none) (.seq (.region [ ⟨none,none,.slice (some 3) 1 (.var 2) none none none⟩,⟨none,none,.mv (.var 0)⟩,⟨none,none,.copy 1 (.loc 0) (.loc 1)⟩] none) (.seq (.region [ ⟨none,none,.load true 3 (.var 2)⟩,⟨none,none,.store 3 (.var 1) (.loc 0)⟩] none) .ret))))
def ir75 : IFn:={ np:=1,nv:=3,slots:=[0,2,3],res:=[.cell 1 true 3],body:=c75 }
def ks75 : List (List Nat):=[]
def hi75 : Hint:={ own:=false,fb:=true,dyn:=.pure,md:=[] }
def c76 : IR:=(.seq (.region [ ⟨(some 3),none,.boxi (.var 0)⟩,⟨(some 2),none,.mv (.k (.int .i64 0))⟩] none) (.seq (.seq (.region [ ⟨none,none,.load true 4 (.var 3)⟩,⟨none,none,.call .pure (.k (.fn 48 [] [])) [(.loc 0)]⟩,⟨none,none,.mv (.var 1)⟩,⟨none,none,.len .sl (.loc 2)⟩,⟨none,none,.faddr 1 (.var 3)⟩,⟨none,none,.load false 1 (.loc 4)⟩,⟨none,none,.len .sl (.loc 5)⟩,⟨none,none,.bin .neq (.loc 3) (.loc 6)⟩,⟨none,none,.call .pure (.k (.fn 54 [] [])) [(.loc 7),(.k (.int .i64 13))]⟩,⟨none,none,.bslice false 1 [.int .i64 0] 2 [(0,(.loc 1)),(1,(.loc 8))]⟩,⟨none,none,.call .pure (.k (.fn 55 [] [])) [(.loc 9)]⟩,⟨(some 4),none,.mv (.loc 10)⟩] (some (12,[]))) (.seq (.region [ ⟨none,none,.mv (.var 4)⟩,⟨(some 5),none,.bin .neq (.loc 0) (.k (.int .i64 0))⟩] none) (.cond (.var 5) (.seq (.region [ ⟨none,none,.mv (.var 4)⟩,⟨(some 2),none,.mv (.loc 0)⟩] none) .ret) .skip))) (.seq (.region [ ⟨none,none,.faddr 1 (.var 3)⟩,⟨none,none,.load false 1 (.loc 0)⟩,⟨none,none,.mv (.var 1)⟩,⟨none,none,.call .pure (.k (.fn 81 [] [])) [(.loc 1),(.loc 2)]⟩,⟨none,none,.un .not (.loc 3)⟩,⟨none,none,.call .pure (.k (.fn 54 [] [])) [(.loc 4),(.k (.int .i64 14))]⟩,⟨(some 2),none,.mv (.loc 5)⟩] none) .ret)))
def ir76 : IFn:={ np:=2,nv:=6,slots:=[0,1,4,2,5,18],res:=[.v 2],body:=c76 }
def ks76 : List (List Nat):=[]
def hi76 : Hint:={ own:=false,fb:=true,dyn:=.pure,md:=[] }
def c77 : IR:=(.seq (.region [ ⟨(some 2),none,.mv (.k (.int .i64 0))⟩] none) (.seq (.region [ ⟨none,none,.mv (.var 0)⟩,⟨none,none,.call .pure (.k (.fn 40 [] [])) [(.loc 0)]⟩,⟨none,none,.mv (.var 1)⟩,⟨none,none,.call .pure (.k (.fn 40 [] [])) [(.loc 2)]⟩,⟨none,none,.mv (.var 0)⟩,⟨none,none,.len .sl (.loc 4)⟩,⟨none,none,.mv (.var 1)⟩,⟨none,none,.len .sl (.loc 6)⟩,⟨none,none,.bin .neq (.loc 5) (.loc 7)⟩,⟨none,none,.call .pure (.k (.fn 54 [] [])) [(.loc 8),(.k (.int .i64 13))]⟩,⟨none,none,.bslice false 1 [.int .i64 0] 3 [(0,(.loc 1)),(1,(.loc 3)),(2,(.loc 9))]⟩,⟨none,none,.call .pure (.k (.fn 55 [] [])) [(.loc 10)]⟩,⟨(some 2),none,.mv (.loc 11)⟩] none) .ret))
def ir77 : IFn:={ np:=2,nv:=3,slots:=[0,1,4],res:=[.v 2],body:=c77 }
def ks77 : List (List Nat):=[]
def hi77 : Hint:={ own:=false,fb:=true,dyn:=.pure,md:=[] }
def c78 : IR:=(.seq (.region [ ⟨(some 3),none,.boxi (.var 0)⟩,⟨(some 4),none,.boxi (.var 1)⟩,⟨(some 2),none,.alloc [.int .i64 0,.int .i64 0]⟩] none) (.seq (.region [ ⟨none,none,.faddr 0 (.var 3)⟩,⟨none,none,.load false 1 (.loc 0)⟩,⟨none,none,.faddr 0 (.var 4)⟩,⟨none,none,.load false 1 (.loc 2)⟩,⟨none,none,.mnmx true (.loc 1) (.loc 3)⟩,⟨(some 5),none,.mv (.loc 4)⟩] none) (.seq (.region [ ⟨none,none,.mv (.var 5)⟩,⟨none,none,.faddr 0 (.var 3)⟩,⟨none,none,.load false 1 (.loc 1)⟩,⟨none,none,.faddr 1 (.var 3)⟩,⟨none,none,.load false 1 (.loc 3)⟩,⟨none,none,.bin .add (.loc 2) (.loc 4)⟩,⟨none,none,.faddr 0 (.var 4)⟩,⟨none,none,.load false 1 (.loc 6)⟩,⟨none,none,.faddr 1 (.var 4)⟩,⟨none,none,.load false 1 (.loc 8)⟩,⟨none,none,.bin .add (.loc 7) (.loc 9)⟩,⟨none,none,.mnmx false (.loc 5) (.loc 10)⟩,⟨none,none,.mv (.var 5)⟩,⟨none,none,.bin .sub (.loc 11) (.loc 12)⟩,⟨none,none,.build [.int .i64 0,.int .i64 0] [(0,1,(.loc 0)),(1,1,(.loc 13))]⟩,⟨none,none,.store 2 (.var 2) (.loc 14)⟩] none) .ret)))
def ir78 : IFn:={ np:=2,nv:=6,slots:=[0,1,4,2,3,5],res:=[.cell 2 true 2],body:=c78 }
def ks78 : List (List Nat):=[]
def hi78 : Hint:={ own:=false,fb:=true,dyn:=.pure,md:=[] }
def c79 : IR:=(.seq (.region [ ⟨(some 1),none,.mv (.k (.nil))⟩] none) (.seq (.seq (.region [ ⟨none,none,.mv (.var 0)⟩,⟨(some 2),none,.eqs false .nilsl (.loc 0) (.k (.nil))⟩] none) (.cond (.var 2) (.seq (.region [ ⟨(some 1),none,.mv (.k (.nil))⟩] none) .ret) .skip)) (.seq (.region [ ⟨none,none,.bslice false 1 [.int .i64 0] 0 []⟩,⟨none,none,.mv (.var 0)⟩,⟨none,none,.append 1 8 (.loc 0) (.loc 1)⟩,⟨(some 1),none,.mv (.loc 2)⟩] none) .ret)))
def ir79 : IFn:={ np:=1,nv:=3,slots:=[0,2,4],res:=[.v 1],body:=c79 }
def ks79 : List (List Nat):=[]
def hi79 : Hint:={ own:=false,fb:=false,dyn:=.pure,md:=[] }
def c80 : IR:=(.seq (.region [ ⟨(some 2),none,.mv (.k (.int .i64 0))⟩] none) (.seq (.region [ ⟨none,none,.mv (.var 0)⟩,⟨none,none,.call .pure (.k (.fn 40 [] [])) [(.loc 0)]⟩,⟨none,none,.mv (.var 1)⟩,⟨none,none,.len .sl (.loc 2)⟩,⟨none,none,.mv (.var 0)⟩,⟨none,none,.len .sl (.loc 4)⟩,⟨none,none,.bin .neq (.loc 3) (.loc 5)⟩,⟨none,none,.call .pure (.k (.fn 54 [] [])) [(.loc 6),(.k (.int .i64 13))]⟩,⟨none,none,.bslice false 1 [.int .i64 0] 2 [(0,(.loc 1)),(1,(.loc 7))]⟩,⟨none,none,.call .pure (.k (.fn 55 [] [])) [(.loc 8)]⟩,⟨(some 2),none,.mv (.loc 9)⟩] none) .ret))
def ir80 : IFn:={ np:=2,nv:=3,slots:=[0,1,4],res:=[.v 2],body:=c80 }
def ks80 : List (List Nat):=[]
def hi80 : Hint:={ own:=false,fb:=true,dyn:=.pure,md:=[] }
def d81_0 : IR:=(.seq (.region [ ⟨(some 8),none,.bin .lss (.var 7) (.var 6)⟩] none) (.seq (.cond (.var 8) .skip (.exit 0)) (.seq (.block 1 (.seq (.region [ ⟨none,none,.mv (.var 7)⟩,⟨none,none,.iaddr none 2 (.var 5) (.var 7)⟩,⟨none,none,.load true 2 (.loc 1)⟩,⟨(some 4),none,.alloc [.int .i64 0,.int .i64 0]⟩,⟨(some 3),none,.mv (.loc 0)⟩,⟨none,none,.store 2 (.var 4) (.loc 2)⟩] none) (.seq (.region [ ⟨none,none,.mv (.var 1)⟩,⟨none,none,.mv (.var 3)⟩,⟨none,none,.iaddr none 1 (.loc 0) (.loc 1)⟩,⟨none,none,.load false 1 (.loc 2)⟩,⟨none,none,.faddr 0 (.var 4)⟩,⟨none,none,.load false 1 (.loc 4)⟩,⟨none,none,.bin .lss (.loc 3) (.loc 5)⟩,⟨none,none,.mv (.loc 6)⟩,⟨none,some (7,false),.mv (.var 1)⟩,⟨none,some (7,false),.mv (.var 3)⟩,⟨none,some (7,false),.iaddr none 1 (.loc 8) (.loc 9)⟩,⟨none,some (7,false),.load false 1 (.loc 10)⟩,⟨none,some (7,false),.faddr 0 (.var 4)⟩,⟨none,some (7,false),.load false 1 (.loc 12)⟩,⟨none,some (7,false),.faddr 1 (.var 4)⟩,⟨none,some (7,false),.load false 1 (.loc 14)⟩,⟨none,some (7,false),.bin .add (.loc 13) (.loc 15)⟩,⟨none,some (7,false),.bin .geq (.loc 11) (.loc 16)⟩,⟨(some 9),none,.pick (.loc 7) (.k (.bool true)) (.loc 17)⟩] (some (19,[]))) (.cond (.var 9) (.seq (.region [ ⟨(some 2),none,.mv (.k (.bool false))⟩] none) .ret) .skip)))) (.region [ ⟨none,none,.bin .add (.var 7) (.k (.int .i64 1))⟩,⟨(some 7),none,.mv (.loc 0)⟩] none))))
def b81_0 : IR:=d81_0
def c81 : IR:=(.seq (.region [ ⟨(some 2),none,.mv (.k (.bool false))⟩] none) (.seq (.seq (.region [ ⟨(some 5),none,.mv (.var 0)⟩,⟨(some 6),none,.len .sl (.var 5)⟩,⟨(some 7),none,.mv (.k (.int .i64 0))⟩] none) (.block 0 (.loop [0,1,0,0,0,1,1,1,0,0] [0,0,1,0,0,0,0,0,0,0] b81_0))) (.seq (.region [ ⟨(some 2),none,.mv (.k (.bool true))⟩] none) .ret)))
def ir81 : IFn:={ np:=2,nv:=10,slots:=[0,1,4,5,6,7,8,9,10,32],res:=[.v 2],body:=c81 }
def ks81 : List (List Nat):=[[0,1,0,0,0,1,1,1,0,0],[0,0,1,0,0,0,0,0,0,0]]
def hi81 : Hint:={ own:=false,fb:=true,dyn:=.pure,md:=[] }
def d82_0 : IR:=(.seq (.region [ ⟨(some 11),none,.bin .lss (.var 10) (.var 9)⟩] none) (.seq (.cond (.var 11) .skip (.exit 0)) (.seq (.block 1 (.seq (.region [ ⟨none,none,.mv (.var 10)⟩,⟨none,none,.iaddr none 2 (.var 8) (.var 10)⟩,⟨none,none,.load true 2 (.loc 1)⟩,⟨(some 7),none,.alloc [.int .i64 0,.int .i64 0]⟩,⟨(some 6),none,.mv (.loc 0)⟩,⟨none,none,.store 2 (.var 7) (.loc 2)⟩] none) (.region [ ⟨none,none,.mv (.var 5)⟩,⟨none,none,.mv (.var 6)⟩,⟨none,none,.iaddr (some 3) 1 (.var 4) (.loc 1)⟩,⟨none,none,.load false 1 (.loc 2)⟩,⟨none,none,.faddr 0 (.var 7)⟩,⟨none,none,.load false 1 (.loc 4)⟩,⟨none,none,.bin .sub (.loc 3) (.loc 5)⟩,⟨none,none,.mv (.var 1)⟩,⟨none,none,.mv (.var 6)⟩,⟨none,none,.iaddr none 1 (.loc 7) (.loc 8)⟩,⟨none,none,.load false 1 (.loc 9)⟩,⟨none,none,.bin .mul (.loc 6) (.loc 10)⟩,⟨none,none,.bin .add (.loc 0) (.loc 11)⟩,⟨(some 5),none,.mv (.loc 12)⟩] (some (13,[]))))) (.region [ ⟨none,none,.bin .add (.var 10) (.k (.int .i64 1))⟩,⟨(some 10),none,.mv (.loc 0)⟩] none))))
def b82_0 : IR:=d82_0
def c82 : IR:=(.seq (.region [ ⟨(some 4),none,.boxi (.var 2)⟩,⟨(some 3),none,.mv (.k (.int .i64 0))⟩] none) (.seq (.region [ ⟨(some 5),none,.mv (.k (.int .i64 0))⟩] none) (.seq (.seq (.region [ ⟨(some 8),none,.mv (.var 0)⟩,⟨(some 9),none,.len .sl (.var 8)⟩,⟨(some 10),none,.mv (.k (.int .i64 0))⟩] none) (.block 0 (.loop [0,1,0,0,1,1,0,0,1,1,1,0] [0,0,0,0,0,1,0,0,0,0,0,0] b82_0))) (.seq (.region [ ⟨none,none,.mv (.var 5)⟩,⟨(some 3),none,.mv (.loc 0)⟩] none) .ret))))
def ir82 : IFn:={ np:=3,nv:=12,slots:=[0,1,2,6,5,7,8,9,10,11,12,13],res:=[.v 3],body:=c82 }
def ks82 : List (List Nat):=[[0,1,0,0,1,1,0,0,1,1,1,0],[0,0,0,0,0,1,0,0,0,0,0,0]]
def hi82 : Hint:={ own:=false,fb:=true,dyn:=.pure,md:=[] }
def d84_0 : IR:=(.seq (.region [ ⟨(some 8),none,.bin .lss (.var 7) (.var 6)⟩] none) (.seq (.cond (.var 8) .skip (.exit 0)) (.seq (.block 1 (.seq (.region [ ⟨none,none,.iaddr none 2 (.var 5) (.var 7)⟩,⟨none,none,.load true 2 (.loc 0)⟩,⟨(some 4),none,.alloc [.int .i64 0,.int .i64 0]⟩,⟨none,none,.store 2 (.var 4) (.loc 1)⟩] none) (.region [ ⟨none,none,.mv (.var 3)⟩,⟨none,none,.mv (.var 1)⟩,⟨none,none,.load true 2 (.var 4)⟩,⟨none,none,.call .pure (.loc 1) [(.loc 2)]⟩,⟨none,none,.bslice false 1 [.int .i64 0] 1 [(0,(.loc 3))]⟩,⟨none,none,.append 1 8 (.loc 0) (.loc 4)⟩,⟨(some 3),none,.mv (.loc 5)⟩] none))) (.region [ ⟨none,none,.bin .add (.var 7) (.k (.int .i64 1))⟩,⟨(some 7),none,.mv (.loc 0)⟩] none))))
def b84_0 : IR:=d84_0
def c84 : IR:=(.seq (.region [ ⟨(some 2),none,.mv (.k (.nil))⟩] none) (.seq (.region [ ⟨none,none,.mv (.var 0)⟩,⟨none,none,.len .sl (.loc 0)⟩,⟨none,none,.mkslice 1 8 [.int .i64 0] (.k (.int .i64 0)) (.loc 1)⟩,⟨(some 3),none,.mv (.loc 2)⟩] none) (.seq (.seq (.region [ ⟨(some 5),none,.mv (.var 0)⟩,⟨(some 6),none,.len .sl (.var 5)⟩,⟨(some 7),none,.mv (.k (.int .i64 0))⟩] none) (.block 0 (.loop [0,1,0,1,0,1,1,1,0] [0,0,0,1,0,0,0,0,0] b84_0))) (.seq (.region [ ⟨none,none,.mv (.var 3)⟩,⟨(some 2),none,.mv (.loc 0)⟩] none) .ret))))
def ir84 : IFn:={ np:=2,nv:=9,slots:=[0,1,4,5,7,11,12,13,14],res:=[.v 2],body:=c84 }
def ks84 : List (List Nat):=[[0,1,0,1,0,1,1,1,0],[0,0,0,1,0,0,0,0,0]]
def hi84 : Hint:={ own:=false,fb:=true,dyn:=.pure,md:=[] }
def c85 : IR:=(.seq (.region [ ⟨(some 2),none,.boxi (.var 0)⟩,⟨(some 1),none,.mv (.k (.int .i64 0))⟩] none) (.seq (.region [ ⟨none,none,.faddr 0 (.var 2)⟩,⟨none,none,.load false 1 (.loc 0)⟩,⟨none,none,.call .pure (.k (.fn 57 [] [])) [(.loc 1),(.k (.int .i64 (-1048576))),(.k (.int .i64 1048576))]⟩,⟨none,none,.un .not (.loc 2)⟩,⟨none,none,.mv (.loc 3)⟩,⟨none,some (4,false),.faddr 1 (.var 2)⟩,⟨none,some (4,false),.load false 1 (.loc 5)⟩,⟨none,some (4,false),.call .pure (.k (.fn 57 [] [])) [(.loc 6),(.k (.int .i64 0)),(.k (.int .i64 64))]⟩,⟨none,some (4,false),.un .not (.loc 7)⟩,⟨none,none,.pick (.loc 4) (.k (.bool true)) (.loc 8)⟩,⟨none,none,.mv (.loc 9)⟩,⟨none,some (10,false),.faddr 0 (.var 2)⟩,⟨none,some (10,false),.load false 1 (.loc 11)⟩,⟨none,some (10,false),.faddr 1 (.var 2)⟩,⟨none,some (10,false),.load false 1 (.loc 13)⟩,⟨none,some (10,false),.bin .add (.loc 12) (.loc 14)⟩,⟨none,some (10,false),.bin .gtr (.loc 15) (.k (.int .i64 1048577))⟩,⟨none,none,.pick (.loc 10) (.k (.bool true)) (.loc 16)⟩,⟨none,none,.call .pure (.k (.fn 54 [] [])) [(.loc 17),(.k (.int .i64 3))]⟩,⟨(some 1),none,.mv (.loc 18)⟩] none) .ret))
def ir85 : IFn:={ np:=1,nv:=3,slots:=[0,2,1],res:=[.v 1],body:=c85 }
def ks85 : List (List Nat):=[]
def hi85 : Hint:={ own:=false,fb:=true,dyn:=.pure,md:=[] }
def c86 : IR:=(.seq (.region [ ⟨(some 3),none,.mv (.k (.nil))⟩] none) (.seq (.region [ ⟨none,none,.mv (.var 0)⟩,⟨none,none,.mv (.var 1)⟩,⟨none,none,.mv (.var 2)⟩,⟨none,none,.mv (.var 0)⟩,⟨none,none,.len .sl (.loc 3)⟩,⟨none,none,.slice none 2 (.loc 0) (some (.loc 1)) (some (.loc 2)) (some (.loc 4))⟩] none) (.seq (.seq (.region [ ⟨none,none,.mv (.var 1)⟩,⟨none,none,.mv (.var 2)⟩,⟨(some 5),none,.bin .eql (.loc 0) (.loc 1)⟩] none) (.cond (.var 5) (.seq (.region [ ⟨none,none,.mv (.var 0)⟩,⟨(some 3),none,.mv (.loc 0)⟩] none) .ret) .skip)) (.seq (.region [ ⟨none,none,.mv (.var 0)⟩,⟨none,none,.len .sl (.loc 0)⟩,⟨(some 4),none,.mv (.loc 1)⟩] none) (.seq (.region [ ⟨none,none,.mv (.var 0)⟩,⟨none,none,.mv (.var 1)⟩,⟨none,none,.slice none 2 (.loc 0) none (some (.loc 1)) none⟩,⟨none,none,.mv (.var 0)⟩,⟨none,none,.mv (.var 2)⟩,⟨none,none,.slice none 2 (.loc 3) (some (.loc 4)) none none⟩,⟨none,none,.append 2 16 (.loc 2) (.loc 5)⟩,⟨(some 0),none,.mv (.loc 6)⟩] (some (6,[]))) (.seq (.region [ ⟨none,none,.mv (.var 0)⟩,⟨none,none,.mv (.var 0)⟩,⟨none,none,.len .sl (.loc 1)⟩,⟨none,none,.mv (.var 4)⟩,⟨none,none,.slice none 2 (.loc 0) (some (.loc 2)) (some (.loc 3)) none⟩,⟨none,none,.clear [.int .i64 0,.int .i64 0] (.loc 4)⟩] none) (.seq (.region [ ⟨none,none,.mv (.var 0)⟩,⟨(some 3),none,.mv (.loc 0)⟩] none) .ret)))))))
def ir86 : IFn:={ np:=3,nv:=6,slots:=[0,1,2,6,7,16],res:=[.v 3],body:=c86 }
def ks86 : List (List Nat):=[]
def hi86 : Hint:={ own:=false,fb:=false,dyn:=.pure,md:=[] }
def c87 : IR:=(.seq (.region [ ⟨(some 5),none,.boxi (.var 0)⟩,⟨(some 4),none,.mv (.k (.int .u64 0))⟩] none) (.seq (.region [ ⟨none,none,.load true 4 (.var 1)⟩,⟨none,none,.build [.int .i64 0,.nil,.nil,.nil] [(0,4,(.loc 0))]⟩,⟨none,none,.faddr 1 (.var 1)⟩,⟨none,none,.load false 1 (.loc 2)⟩,⟨none,none,.len .sl (.loc 3)⟩,⟨none,none,.bin .sub (.loc 4) (.k (.int .i64 1))⟩,⟨none,none,.slice (some 3) 1 (.var 5) none (some (.loc 5)) none⟩,⟨none,none,.call .imp (.k (.fn 79 [] [])) [(.loc 6)]⟩,⟨none,none,.load false 1 (.var 2)⟩,⟨none,none,.load false 1 (.var 3)⟩,⟨none,none,.bslice true 1 [.int .i64 0] 1 [(0,(.loc 9))]⟩,⟨none,none,.call .sh (.k (.fn 88 [] [])) [(.loc 7),(.loc 8),(.loc 10)]⟩,⟨none,none,.call .pure (.k (.fn 75 [] [])) [(.loc 11)]⟩,⟨none,none,.call .pure (.k (.fn 62 [] [])) [(.loc 1),(.loc 12)]⟩,⟨(some 4),none,.mv (.loc 13)⟩] (some (11,[0,1]))) .ret))
def ir87 : IFn:={ np:=4,nv:=6,slots:=[0,1,2,3,5,4],res:=[.v 4],body:=c87 }
def ks87 : List (List Nat):=[]
def hi87 : Hint:={ own:=true,fb:=true,dyn:=.pure,md:=[(79,.imp),(88,.sh)] }
def c89 : IR:=(.seq (.region [ ⟨(some 1),none,.mv (.k (.bool false))⟩] none) (.seq (.region [ ⟨none,none,.mv (.var 0)⟩,⟨none,none,.call .pure (.k (.fn 57 [] [])) [(.loc 0),(.k (.int .i64 0)),(.k (.int .i64 4096))]⟩,⟨none,none,.un .not (.loc 1)⟩,⟨(some 1),none,.mv (.loc 2)⟩] none) .ret))
def ir89 : IFn:={ np:=1,nv:=2,slots:=[0,2],res:=[.v 1],body:=c89 }
def ks89 : List (List Nat):=[]
def hi89 : Hint:={ own:=false,fb:=true,dyn:=.pure,md:=[] }
def c90 : IR:=(.seq (.region [ ⟨(some 3),none,.boxi (.var 0)⟩,⟨(some 2),none,.mv (.k (.int .i64 0))⟩] none) (.seq (.region [ ⟨none,none,.mv (.var 1)⟩,⟨none,none,.mkfn 101 [] [(.var 3)]⟩,⟨none,none,.call .pure (.k (.fn 100 [] [])) [(.loc 0),(.loc 1)]⟩,⟨none,none,.call .pure (.k (.fn 55 [] [])) [(.loc 2)]⟩,⟨(some 2),none,.mv (.loc 3)⟩] none) .ret))
def ir90 : IFn:={ np:=2,nv:=4,slots:=[0,1,4,2],res:=[.v 2],body:=c90 }
def ks90 : List (List Nat):=[]
def hi90 : Hint:={ own:=false,fb:=true,dyn:=.pure,md:=[] }
def d91_0 : IR:=(.seq (.region [ ⟨(some 6),none,.bin .lss (.var 5) (.var 4)⟩] none) (.seq (.cond (.var 6) .skip (.exit 0)) (.seq (.block 1 (.seq (.region [ ⟨none,none,.mv (.var 0)⟩,⟨none,none,.mv (.var 1)⟩,⟨none,none,.conv .u8 (.loc 1)⟩,⟨none,none,.bslice false 1 [.int .u8 0] 1 [(0,(.loc 2))]⟩,⟨none,none,.append 1 1 (.loc 0) (.loc 3)⟩,⟨(some 0),none,.mv (.loc 4)⟩] none) (.region [ ⟨none,none,.mv (.var 1)⟩,⟨none,none,.bin .shr (.loc 0) (.k (.int .u64 8))⟩,⟨(some 1),none,.mv (.loc 1)⟩] none))) (.region [ ⟨none,none,.bin .add (.var 5) (.k (.int .i64 1))⟩,⟨(some 5),none,.mv (.loc 0)⟩] none))))
def b91_0 : IR:=d91_0
def c91 : IR:=(.seq (.region [ ⟨(some 3),none,.mv (.k (.nil))⟩] none) (.seq (.seq (.region [ ⟨(some 4),none,.mv (.var 2)⟩,⟨(some 5),none,.mv (.k (.int .i64 0))⟩] none) (.block 0 (.loop [1,1,0,0,1,1,0] [1,0,0,0,0,0,0] b91_0))) (.seq (.region [ ⟨none,none,.mv (.var 0)⟩,⟨(some 3),none,.mv (.loc 0)⟩] none) .ret)))
def ir91 : IFn:={ np:=3,nv:=7,slots:=[0,1,2,6,7,8,9],res:=[.v 3],body:=c91 }
def ks91 : List (List Nat):=[[1,1,0,0,1,1,0],[1,0,0,0,0,0,0]]
def hi91 : Hint:={ own:=false,fb:=true,dyn:=.pure,md:=[] }
def c92 : IR:=(.seq (.region [ ⟨(some 2),none,.mv (.k (.int .i64 0))⟩] none) (.seq (.seq (.region [ ⟨(some 3),none,.mv (.var 0)⟩] none) (.cond (.var 3) (.seq (.region [ ⟨none,none,.mv (.var 1)⟩,⟨(some 2),none,.mv (.loc 0)⟩] none) .ret) .skip)) (.seq (.region [ ⟨(some 2),none,.mv (.k (.int .i64 0))⟩] none) .ret)))
def ir92 : IFn:={ np:=2,nv:=4,slots:=[0,1,4,5],res:=[.v 2],body:=c92 }
def ks92 : List (List Nat):=[]
def hi92 : Hint:={ own:=false,fb:=false,dyn:=.pure,md:=[] }
def c93 : IR:=(.seq (.region [ ⟨(some 1),none,.mv (.k (.bool false))⟩] none) (.seq (.region [ ⟨none,none,.mv (.var 0)⟩,⟨none,none,.bin .geq (.loc 0) (.k (.int .i64 0))⟩,⟨none,none,.mv (.loc 1)⟩,⟨none,some (2,true),.mv (.var 0)⟩,⟨none,some (2,true),.bin .lss (.loc 3) (.k (.int .i64 11))⟩,⟨none,none,.pick (.loc 2) (.loc 4) (.k (.bool false))⟩,⟨(some 1),none,.mv (.loc 5)⟩] none) .ret))
def ir93 : IFn:={ np:=1,nv:=2,slots:=[0,2],res:=[.v 1],body:=c93 }
def ks93 : List (List Nat):=[]
def hi93 : Hint:={ own:=false,fb:=false,dyn:=.pure,md:=[] }
def c94 : IR:=(.seq (.region [ ⟨(some 1),none,.mv (.k (.int .i64 0))⟩,⟨(some 2),none,.mv (.k (.int .i64 0))⟩] none) (.seq (.seq (.region [ ⟨none,none,.mv (.var 0)⟩,⟨none,none,.call .pure (.k (.fn 93 [] [])) [(.loc 0)]⟩,⟨(some 3),none,.un .not (.loc 1)⟩] none) (.cond (.var 3) (.seq (.region [ ⟨(some 1),none,.mv (.k (.int .i64 0))⟩,⟨(some 2),none,.mv (.k (.int .i64 11))⟩] none) .ret) .skip)) (.seq (.region [ ⟨none,none,.mv (.var 0)⟩,⟨none,none,.iaddr (some 11) 4 (.k (.ptr [.str ⟨#[98,111,111,108]⟩,.int .i64 1,.bool false,.bool false,.str ⟨#[117,56]⟩,.int .i64 8,.bool true,.bool false,.str ⟨#[117,49,54]⟩,.int .i64 16,.bool true,.bool false,.str ⟨#[117,51,50]⟩,.int .i64 32,.bool true,.bool false,.str ⟨#[117,54,52]⟩,.int .i64 64,.bool true,.bool false,.str ⟨#[105,56]⟩,.int .i64 8,.bool true,.bool true,.str ⟨#[105,49,54]⟩,.int .i64 16,.bool true,.bool true,.str ⟨#[105,51,50]⟩,.int .i64 32,.bool true,.bool true,.str ⟨#[105,54,52]⟩,.int .i64 64,.bool true,.bool true,.str ⟨#[102,51,50]⟩,.int .i64 32,.bool false,.bool false,.str ⟨#[99,54,52]⟩,.int .i64 64,.bool false,.bool false])) (.loc 0)⟩,⟨none,none,.faddr 1 (.loc 1)⟩,⟨none,none,.load false 1 (.loc 2)⟩,⟨(some 1),none,.mv (.loc 3)⟩,⟨(some 2),none,.mv (.k (.int .i64 0))⟩] none) .ret)))
def ir94 : IFn:={ np:=1,nv:=4,slots:=[0,2,3,6],res:=[.v 1,.v 2],body:=c94 }
def ks94 : List (List Nat):=[]
def hi94 : Hint:={ own:=false,fb:=false,dyn:=.pure,md:=[] }
def d95_0 : IR:=(.seq (.region [ ⟨(some 13),none,.bin .lss (.var 12) (.var 11)⟩] none) (.seq (.cond (.var 13) .skip (.exit 0)) (.seq (.block 1 (.seq (.region [ ⟨none,none,.mv (.var 12)⟩,⟨none,none,.iaddr none 2 (.var 10) (.var 12)⟩,⟨none,none,.load true 2 (.loc 1)⟩,⟨(some 6),none,.alloc [.int .i64 0,.int .i64 0]⟩,⟨(some 5),none,.mv (.loc 0)⟩,⟨none,none,.store 2 (.var 6) (.loc 2)⟩] none) (.region [ ⟨none,none,.mv (.var 5)⟩,⟨none,none,.faddr 0 (.var 6)⟩,⟨none,none,.load false 1 (.loc 1)⟩,⟨none,none,.iaddr (some 3) 1 (.var 4) (.loc 0)⟩,⟨none,none,.store 1 (.loc 3) (.loc 2)⟩] none))) (.region [ ⟨none,none,.bin .add (.var 12) (.k (.int .i64 1))⟩,⟨(some 12),none,.mv (.loc 0)⟩] none))))
def b95_0 : IR:=d95_0
def d95_1 : IR:=(.seq (.region [ ⟨(some 21),none,.bin .lss (.var 20) (.var 19)⟩] none) (.seq (.cond (.var 21) .skip (.exit 4)) (.seq (.block 5 (.seq (.region [ ⟨none,none,.mv (.var 20)⟩,⟨none,none,.iaddr none 2 (.var 18) (.var 20)⟩,⟨none,none,.load true 2 (.loc 1)⟩,⟨(some 9),none,.alloc [.int .i64 0,.int .i64 0]⟩,⟨(some 8),none,.mv (.loc 0)⟩,⟨none,none,.store 2 (.var 9) (.loc 2)⟩] none) (.seq (.region [ ⟨none,none,.mv (.var 8)⟩,⟨none,none,.iaddr (some 3) 1 (.var 3) (.loc 0)⟩,⟨none,none,.load false 1 (.loc 1)⟩,⟨none,none,.bin .add (.loc 2) (.k (.int .i64 1))⟩,⟨none,none,.iaddr (some 3) 1 (.var 3) (.loc 0)⟩,⟨none,none,.store 1 (.loc 4) (.loc 3)⟩] none) (.seq (.seq (.region [ ⟨none,none,.mv (.var 8)⟩,⟨none,none,.iaddr (some 3) 1 (.var 3) (.loc 0)⟩,⟨none,none,.load false 1 (.loc 1)⟩,⟨none,none,.faddr 0 (.var 9)⟩,⟨none,none,.load false 1 (.loc 3)⟩,⟨none,none,.faddr 1 (.var 9)⟩,⟨none,none,.load false 1 (.loc 5)⟩,⟨none,none,.bin .add (.loc 4) (.loc 6)⟩,⟨(some 22),none,.bin .lss (.loc 2) (.loc 7)⟩] (some (9,[]))) (.cond (.var 22) (.exit 4) .skip)) (.region [ ⟨none,none,.mv (.var 8)⟩,⟨none,none,.mv (.var 8)⟩,⟨none,none,.iaddr (some 3) 1 (.var 4) (.loc 1)⟩,⟨none,none,.load false 1 (.loc 2)⟩,⟨none,none,.iaddr (some 3) 1 (.var 3) (.loc 0)⟩,⟨none,none,.store 1 (.loc 4) (.loc 3)⟩] none))))) (.region [ ⟨none,none,.bin .add (.var 20) (.k (.int .i64 1))⟩,⟨(some 20),none,.mv (.loc 0)⟩] none))))
def b95_1 : IR:=d95_1
def d95_2 : IR:=(.seq (.region [ ⟨(some 16),none,.bin .lss (.var 15) (.var 14)⟩] none) (.seq (.cond (.var 16) .skip (.exit 2)) (.seq (.block 3 (.seq (.region [ ⟨none,none,.mv (.var 15)⟩,⟨(some 7),none,.mv (.loc 0)⟩] none) (.seq (.seq (.region [ ⟨none,none,.mv (.var 0)⟩,⟨none,none,.mv (.var 7)⟩,⟨none,none,.load true 3 (.var 3)⟩,⟨none,none,.call .pure (.loc 0) [(.loc 1),(.loc 2)]⟩,⟨(some 17),none,.un .not (.loc 3)⟩] none) (.cond (.var 17) .ret .skip)) (.seq (.region [ ⟨(some 18),none,.load false 1 (.var 1)⟩,⟨(some 19),none,.len .sl (.var 18)⟩,⟨(some 20),none,.mv (.k (.int .i64 0))⟩] none) (.block 4 (.loop [1,1,0,1,1,0,0,0,0,0,0,0,0,0,1,1,0,0,1,1,1,0,0] [1,1,0,1,1,0,0,0,0,0,0,0,0,0,1,1,0,0,0,0,0,0,0] b95_1)))))) (.region [ ⟨none,none,.bin .add (.var 15) (.k (.int .i64 1))⟩,⟨(some 15),none,.mv (.loc 0)⟩] none))))
def b95_2 : IR:=d95_2
def c95 : IR:=(.seq (.region [ ⟨none,none,.load false 1 (.var 1)⟩,⟨none,none,.call .pure (.k (.fn 59 [] [])) [(.loc 0)]⟩,⟨(some 2),none,.mv (.loc 1)⟩] none) (.seq (.region [ ⟨(some 3),none,.alloc [.int .i64 0,.int .i64 0,.int .i64 0]⟩,⟨(some 4),none,.alloc [.int .i64 0,.int .i64 0,.int .i64 0]⟩] none) (.seq (.seq (.region [ ⟨(some 10),none,.load false 1 (.var 1)⟩,⟨(some 11),none,.len .sl (.var 10)⟩,⟨(some 12),none,.mv (.k (.int .i64 0))⟩] none) (.block 0 (.loop [1,1,1,1,1,0,0,0,0,0,1,1,1,0,0,0,0,0,0,0,0,0,0] [1,1,1,1,1,0,0,0,0,0,0,0,0,0,0,0,0,0,0,0,0,0,0] b95_0))) (.seq (.region [ ⟨none,none,.load true 3 (.var 4)⟩,⟨none,none,.store 3 (.var 3) (.loc 0)⟩] none) (.seq (.region [ ⟨(some 14),none,.mv (.var 2)⟩,⟨(some 15),none,.mv (.k (.int .i64 0))⟩] none) (.block 2 (.loop [1,1,0,1,1,0,0,0,0,0,0,0,0,0,1,1,0,0,0,0,0,0,0] [0,0,0,0,0,0,0,0,0,0,0,0,0,0,0,0,0,0,0,0,0,0,0] b95_2)))))))
def ir95 : IFn:={ np:=2,nv:=23,slots:=[0,1,3,4,5,6,7,8,9,10,13,14,15,16,26,27,28,34,35,36,37,38,55],res:=[],body:=c95 }
def ks95 : List (List Nat):=[[1,1,1,1,1,0,0,0,0,0,1,1,1,0,0,0,0,0,0,0,0,0,0],[1,1,1,1,1,0,0,0,0,0,0,0,0,0,0,0,0,0,0,0,0,0,0],[1,1,0,1,1,0,0,0,0,0,0,0,0,0,1,1,0,0,0,0,0,0,0],[0,0,0,0,0,0,0,0,0,0,0,0,0,0,0,0,0,0,0,0,0,0,0],[1,1,0,1,1,0,0,0,0,0,0,0,0,0,1,1,0,0,1,1,1,0,0],[1,1,0,1,1,0,0,0,0,0,0,0,0,0,1,1,0,0,0,0,0,0,0]]
def hi95 : Hint:={ own:=false,fb:=true,dyn:=.pure,md:=[] }
def d96_0 : IR:=(.seq (.region [ ⟨(some 6),none,.bin .lss (.var 5) (.var 4)⟩] none) (.seq (.cond (.var 6) .skip (.exit 0)) (.seq (.block 1 (.seq (.region [ ⟨none,none,.mv (.var 5)⟩,⟨(some 3),none,.mv (.loc 0)⟩] none) (.seq (.region [ ⟨none,none,.mv (.var 1)⟩,⟨none,none,.mv (.var 0)⟩,⟨none,none,.mv (.var 3)⟩,⟨none,none,.iaddr none 1 (.loc 1) (.loc 2)⟩,⟨none,none,.load false 1 (.loc 3)⟩,⟨(some 7),none,.call .pure (.loc 0) [(.loc 4)]⟩] none) (.cond (.var 7) (.seq (.region [ ⟨none,none,.mv (.var 3)⟩,⟨(some 2),none,.mv (.loc 0)⟩] none) .ret) .skip)))) (.region [ ⟨none,none,.bin .add (.var 5) (.k (.int .i64 1))⟩,⟨(some 5),none,.mv (.loc 0)⟩] none))))
def b96_0 : IR:=d96_0
def c96 : IR:=(.seq (.region [ ⟨(some 2),none,.mv (.k (.int .i64 0))⟩] none) (.seq (.seq (.region [ ⟨none,none,.mv (.var 0)⟩,⟨(some 4),none,.len .sl (.loc 0)⟩,⟨(some 5),none,.mv (.k (.int .i64 0))⟩] none) (.block 0 (.loop [1,1,0,0,1,1,0,0] [0,0,1,0,0,0,0,0] b96_0))) (.seq (.region [ ⟨(some 2),none,.mv (.k (.int .i64 (-1)))⟩] none) .ret)))
def ir96 : IFn:={ np:=2,nv:=8,slots:=[0,1,4,5,7,8,9,16],res:=[.v 2],body:=c96 }
def ks96 : List (List Nat):=[[1,1,0,0,1,1,0,0],[0,0,1,0,0,0,0,0]]
def hi96 : Hint:={ own:=false,fb:=false,dyn:=.pure,md:=[] }
def c97 : IR:=(.seq (.region [ ⟨(some 2),none,.mv (.k (.bool false))⟩] none) (.seq (.seq (.region [ ⟨(some 3),none,.mv (.var 0)⟩] none) (.block 0 (.seq (.region [ ⟨none,none,.bin .eql (.var 3) (.k (.int .i64 9))⟩,⟨(some 4),none,.mv (.loc 0)⟩] none) (.cond (.var 4) (.seq (.region [ ⟨none,none,.mv (.var 1)⟩,⟨none,none,.bin .shr (.loc 0) (.k (.int .u64 32))⟩,⟨none,none,.bin .eql (.loc 1) (.k (.int .u64 0))⟩,⟨none,none,.mv (.loc 2)⟩,⟨none,some (3,true),.mv (.var 1)⟩,⟨none,some (3,true),.call .pure (.k (.fn 102 [] [])) [(.loc 4)]⟩,⟨none,none,.pick (.loc 3) (.loc 5) (.k (.bool false))⟩,⟨(some 2),none,.mv (.loc 6)⟩] none) .ret) (.seq (.region [ ⟨none,none,.bin .eql (.var 3) (.k (.int .i64 10))⟩,⟨(some 5),none,.mv (.loc 0)⟩] none) (.cond (.var 5) (.seq (.region [ ⟨none,none,.mv (.var 1)⟩,⟨none,none,.call .pure (.k (.fn 103 [] [])) [(.k (.int .i64 32))]⟩,⟨none,none,.bin .and (.loc 0) (.loc 1)⟩,⟨none,none,.call .pure (.k (.fn 102 [] [])) [(.loc 2)]⟩,⟨none,none,.mv (.loc 3)⟩,⟨none,some (4,true),.mv (.var 1)⟩,⟨none,some (4,true),.bin .shr (.loc 5) (.k (.int .u64 32))⟩,⟨none,some (4,true),.call .pure (.k (.fn 102 [] [])) [(.loc 6)]⟩,⟨none,none,.pick (.loc 4) (.loc 7) (.k (.bool false))⟩,⟨(some 2),none,.mv (.loc 8)⟩] none) .ret) .skip)))))) (.seq (.region [ ⟨none,none,.mv (.var 1)⟩,⟨none,none,.mv (.var 0)⟩,⟨none,none,.iaddr (some 11) 4 (.k (.ptr [.str ⟨#[98,111,111,108]⟩,.int .i64 1,.bool false,.bool false,.str ⟨#[117,56]⟩,.int .i64 8,.bool true,.bool false,.str ⟨#[117,49,54]⟩,.int .i64 16,.bool true,.bool false,.str ⟨#[117,51,50]⟩,.int .i64 32,.bool true,.bool false,.str ⟨#[117,54,52]⟩,.int .i64 64,.bool true,.bool false,.str ⟨#[105,56]⟩,.int .i64 8,.bool true,.bool true,.str ⟨#[105,49,54]⟩,.int .i64 16,.bool true,.bool true,.str ⟨#[105,51,50]⟩,.int .i64 32,.bool true,.bool true,.str ⟨#[105,54,52]⟩,.int .i64 64,.bool true,.bool true,.str ⟨#[102,51,50]⟩,.int .i64 32,.bool false,.bool false,.str ⟨#[99,54,52]⟩,.int .i64 64,.bool false,.bool false])) (.loc 1)⟩,⟨none,none,.faddr 1 (.loc 2)⟩,⟨none,none,.load false 1 (.loc 3)⟩,⟨none,none,.call .pure (.k (.fn 103 [] [])) [(.loc 4)]⟩,⟨none,none,.bin .andNot (.loc 0) (.loc 5)⟩,⟨none,none,.bin .eql (.loc 6) (.k (.int .u64 0))⟩,⟨(some 2),none,.mv (.loc 7)⟩] none) .ret)))
def ir97 : IFn:={ np:=2,nv:=6,slots:=[0,1,4,5,6,15],res:=[.v 2],body:=c97 }
def ks97 : List (List Nat):=[]
def hi97 : Hint:={ own:=false,fb:=false,dyn:=.pure,md:=[] }
def d100_0 : IR:=(.seq (.region [ ⟨(some 8),none,.bin .lss (.var 7) (.var 6)⟩] none) (.seq (.cond (.var 8) .skip (.exit 0)) (.seq (.block 1 (.seq (.region [ ⟨none,none,.iaddr none 1 (.var 5) (.var 7)⟩,⟨none,none,.load false 1 (.loc 0)⟩,⟨(some 4),none,.mv (.loc 1)⟩] none) (.region [ ⟨none,none,.mv (.var 3)⟩,⟨none,none,.mv (.var 1)⟩,⟨none,none,.mv (.var 4)⟩,⟨none,none,.call .pure (.loc 1) [(.loc 2)]⟩,⟨none,none,.bslice false 1 [.int .i64 0] 1 [(0,(.loc 3))]⟩,⟨none,none,.append 1 8 (.loc 0) (.loc 4)⟩,⟨(some 3),none,.mv (.loc 5)⟩] none))) (.region [ ⟨none,none,.bin .add (.var 7) (.k (.int .i64 1))⟩,⟨(some 7),none,.mv (.loc 0)⟩] none))))
def b100_0 : IR:=d100_0
def c100 : IR:=(.seq (.region [ ⟨(some 2),none,.mv (.k (.nil))⟩] none) (.seq (.region [ ⟨none,none,.mv (.var 0)⟩,⟨none,none,.len .sl (.loc 0)⟩,⟨none,none,.mkslice 1 8 [.int .i64 0] (.k (.int .i64 0)) (.loc 1)⟩,⟨(some 3),none,.mv (.loc 2)⟩] none) (.seq (.seq (.region [ ⟨(some 5),none,.mv (.var 0)⟩,⟨(some 6),none,.len .sl (.var 5)⟩,⟨(some 7),none,.mv (.k (.int .i64 0))⟩] none) (.block 0 (.loop [0,1,0,1,0,1,1,1,0] [0,0,0,1,0,0,0,0,0] b100_0))) (.seq (.region [ ⟨none,none,.mv (.var 3)⟩,⟨(some 2),none,.mv (.loc 0)⟩] none) .ret))))
def ir100 : IFn:={ np:=2,nv:=9,slots:=[0,1,4,5,7,11,12,13,14],res:=[.v 2],body:=c100 }
def ks100 : List (List Nat):=[[0,1,0,1,0,1,1,1,0],[0,0,0,1,0,0,0,0,0]]
def hi100 : Hint:={ own:=false,fb:=true,dyn:=.pure,md:=[] }
def c101 : IR:=(.seq (.region [ ⟨(some 2),none,.mv (.k (.int .i64 0))⟩] none) (.seq (.region [ ⟨none,none,.load false 1 (.var 1)⟩,⟨none,none,.mv (.var 0)⟩,⟨none,none,.call .pure (.k (.fn 61 [] [])) [(.loc 0),(.loc 1)]⟩,⟨(some 2),none,.mv (.loc 2)⟩] none) .ret))
def ir101 : IFn:={ np:=2,nv:=3,slots:=[0,1,3],res:=[.v 2],body:=c101 }
def ks101 : List (List Nat):=[]
def hi101 : Hint:={ own:=false,fb:=true,dyn:=.pure,md:=[] }
def c103 : IR:=(.seq (.region [ ⟨(some 1),none,.mv (.k (.int .u64 0))⟩] none) (.seq (.seq (.region [ ⟨none,none,.mv (.var 0)⟩,⟨(some 2),none,.bin .geq (.loc 0) (.k (.int .i64 64))⟩] none) (.cond (.var 2) (.seq (.region [ ⟨(some 1),none,.mv (.k (.int .u64 18446744073709551615))⟩] none) .ret) .skip)) (.seq (.region [ ⟨none,none,.mv (.var 0)⟩,⟨none,none,.bin .shl (.k (.int .u64 1)) (.loc 0)⟩,⟨none,none,.bin .sub (.loc 1) (.k (.int .u64 1))⟩,⟨(some 1),none,.mv (.loc 2)⟩] none) .ret)))
def ir103 : IFn:={ np:=1,nv:=3,slots:=[0,2,4],res:=[.v 1],body:=c103 }
def ks103 : List (List Nat):=[]
def hi103 : Hint:={ own:=false,fb:=false,dyn:=.pure,md:=[] }
def c128 : IR:=(.seq (.region [ ⟨(some 3),none,.boxi (.var 0)⟩,⟨(some 2),none,.mv (.k (.int .i64 0))⟩] none) (.seq (.region [ ⟨none,none,.mv (.var 1)⟩,⟨none,none,.faddr 0 (.var 3)⟩,⟨none,none,.load false 1 (.loc 1)⟩,⟨none,none,.mnmx false (.loc 0) (.loc 2)⟩,⟨none,none,.faddr 0 (.var 3)⟩,⟨none,none,.load false 1 (.loc 4)⟩,⟨none,none,.faddr 1 (.var 3)⟩,⟨none,none,.load false 1 (.loc 6)⟩,⟨none,none,.bin .add (.loc 5) (.loc 7)⟩,⟨none,none,.bin .sub (.loc 8) (.k (.int .i64 1))⟩,⟨none,none,.mnmx true (.loc 3) (.loc 9)⟩,⟨(some 2),none,.mv (.loc 10)⟩] none) .ret))
def ir128 : IFn:={ np:=2,nv:=4,slots:=[0,1,4,2],res:=[.v 2],body:=c128 }
def ks128 : List (List Nat):=[]
def hi128 : Hint:={ own:=false,fb:=true,dyn:=.pure,md:=[] }
def c129 : IR:=(.seq (.region [ ⟨(some 3),none,.boxi (.var 0)⟩,⟨(some 2),none,.mv (.k (.int .i64 0))⟩] none) (.seq (.region [ ⟨none,none,.faddr 0 (.var 3)⟩,⟨none,none,.load false 1 (.loc 0)⟩,⟨none,none,.mv (.var 1)⟩,⟨none,none,.faddr 0 (.var 3)⟩,⟨none,none,.load false 1 (.loc 3)⟩,⟨none,none,.bin .sub (.loc 2) (.loc 4)⟩,⟨none,none,.faddr 1 (.var 3)⟩,⟨none,none,.load false 1 (.loc 6)⟩,⟨none,none,.call .pure (.k (.fn 130 [] [])) [(.loc 5),(.loc 7)]⟩,⟨none,none,.bin .add (.loc 1) (.loc 8)⟩,⟨(some 2),none,.mv (.loc 9)⟩] (some (11,[]))) .ret))
def ir129 : IFn:={ np:=2,nv:=4,slots:=[0,1,4,2],res:=[.v 2],body:=c129 }
def ks129 : List (List Nat):=[]
def hi129 : Hint:={ own:=false,fb:=true,dyn:=.pure,md:=[] }
def c130 : IR:=(.seq (.region [ ⟨(some 2),none,.mv (.k (.int .i64 0))⟩] none) (.seq (.region [ ⟨none,none,.mv (.var 0)⟩,⟨none,none,.mv (.var 1)⟩,⟨none,none,.bin .rem (.loc 0) (.loc 1)⟩,⟨none,none,.mv (.var 1)⟩,⟨none,none,.bin .add (.loc 2) (.loc 3)⟩,⟨none,none,.mv (.var 1)⟩,⟨none,none,.bin .rem (.loc 4) (.loc 5)⟩,⟨(some 2),none,.mv (.loc 6)⟩] none) .ret))
def ir130 : IFn:={ np:=2,nv:=3,slots:=[0,1,4],res:=[.v 2],body:=c130 }
def ks130 : List (List Nat):=[]
def hi130 : Hint:={ own:=false,fb:=true,dyn:=.pure,md:=[] }
def c131 : IR:=(.seq (.region [ ⟨(some 3),none,.boxi (.var 0)⟩,⟨(some 2),none,.mv (.k (.int .i64 0))⟩] none) (.seq (.region [ ⟨none,none,.mv (.var 1)⟩,⟨none,none,.faddr 0 (.var 3)⟩,⟨none,none,.load false 1 (.loc 1)⟩,⟨none,none,.bin .sub (.loc 0) (.loc 2)⟩,⟨none,none,.faddr 1 (.var 3)⟩,⟨none,none,.load false 1 (.loc 4)⟩,⟨none,none,.bin .mul (.k (.int .i64 2)) (.loc 5)⟩,⟨none,none,.call .pure (.k (.fn 130 [] [])) [(.loc 3),(.loc 6)]⟩,⟨(some 4),none,.mv (.loc 7)⟩] none) (.seq (.region [ ⟨none,none,.faddr 0 (.var 3)⟩,⟨none,none,.load false 1 (.loc 0)⟩,⟨none,none,.mv (.var 4)⟩,⟨none,none,.faddr 1 (.var 3)⟩,⟨none,none,.load false 1 (.loc 3)⟩,⟨none,none,.bin .mul (.k (.int .i64 2)) (.loc 4)⟩,⟨none,none,.bin .sub (.loc 5) (.k (.int .i64 1))⟩,⟨none,none,.mv (.var 4)⟩,⟨none,none,.bin .sub (.loc 6) (.loc 7)⟩,⟨none,none,.mnmx true (.loc 2) (.loc 8)⟩,⟨none,none,.bin .add (.loc 1) (.loc 9)⟩,⟨(some 2),none,.mv (.loc 10)⟩] none) .ret)))
def ir131 : IFn:={ np:=2,nv:=5,slots:=[0,1,4,2,5],res:=[.v 2],body:=c131 }
def ks131 : List (List Nat):=[]
def hi131 : Hint:={ own:=false,fb:=true,dyn:=.pure,md:=[] }
end Go.Vm.P4D
