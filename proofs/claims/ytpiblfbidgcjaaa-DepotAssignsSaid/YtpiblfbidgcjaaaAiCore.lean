/- An abstract interpreter for the model's code: definitions. No theorem of a law stands here. -/
import GoSem.Step
namespace Go.Ai

inductive AVal where
  | undef
  | bool (b : Bool)
  | int (k : IntKind) (n : Int)
  | str (s : ByteArray)
  | ptr (b off : Nat)
  | nilptr
  | slice (b off len es : Nat) (cap : Option Nat)
  | nilslice
  | map (r : Nat)
  | nilmap
  | func (fn : Fn) (first captured : List AVal)
  | nilfunc
  | iface (t : TypeId) (v : AVal)
  | niliface
  | agg (cs : List AVal)
  | tuple (vs : List AVal)
  deriving Inhabited

def AVal.cells : AVal → List AVal
  | .agg cs => cs
  | v => [v]

def AVal.one : AVal → Bool
  | .undef | .agg _ | .tuple _ => false
  | _ => true

def AVal.defd : AVal → Bool
  | .undef => false
  | _ => true

/- a radix tree over Nat keys -/
inductive Tr (α : Type) where
  | leaf
  | node (v : Option α) (l r : Tr α)

def Tr.get {α : Type} : Tr α → Nat → Option α
  | .leaf, _ => none
  | .node v l r, n =>
    match n with
    | 0 => v
    | m + 1 => bif Nat.beq (Nat.mod m 2) 0 then l.get (Nat.div m 2) else r.get (Nat.div m 2)

def Tr.put {α : Type} : Nat → Tr α → Nat → α → Tr α
  | 0, t, _, _ => t
  | k + 1, .leaf, n, x =>
    match n with
    | 0 => .node (some x) .leaf .leaf
    | m + 1 => bif Nat.beq (Nat.mod m 2) 0 then .node none (Tr.put k .leaf (Nat.div m 2) x) .leaf else .node none .leaf (Tr.put k .leaf (Nat.div m 2) x)
  | k + 1, .node v l r, n, x =>
    match n with
    | 0 => .node (some x) l r
    | m + 1 => bif Nat.beq (Nat.mod m 2) 0 then .node v (Tr.put k l (Nat.div m 2) x) r else .node v l (Tr.put k r (Nat.div m 2) x)

def Tr.set {α : Type} (t : Tr α) (n : Nat) (x : α) : Tr α := Tr.put (n + 1) t n x

abbrev AFrame := Tr AVal

def AFrame.ev (fr : AFrame) (t : Nat) : AVal := (Tr.get fr t).getD .undef

structure ALoop where
  state : LoopState
  pending : Option Code
  fr : AFrame
  params : List Nat
  assign : Code
  body : Code

inductive ABlk where
  | arr (cells : List AVal) (ro : Bool)
  | mp (es : List (AVal × AVal))
  | loop (l : ALoop)
  | dead

structure AHeap where
  m : Tr ABlk
  next : Nat
  wm : Nat

def AHeap.get (h : AHeap) (b : Nat) : Option ABlk := h.m.get b
def AHeap.set (h : AHeap) (b : Nat) (x : ABlk) : AHeap := { m := h.m.set b x, next := h.next, wm := min h.wm b }
def AHeap.push (h : AHeap) (x : ABlk) : AHeap := { m := h.m.set h.next x, next := h.next + 1, wm := h.wm }

/- constants -/
def ofCell : Value → Option AVal
  | .bool b => some (.bool b)
  | .int k n => some (.int k n)
  | .string s => some (.str s)
  | .pointer none => some .nilptr
  | .slice none l c => if l = 0 ∧ c = 0 then some .nilslice else none
  | .map none => some .nilmap
  | .nilFunc => some .nilfunc
  | .nilIface => some .niliface
  | .func (.func f) first captured => if first.size = 0 ∧ captured.size = 0 then some (.func (.func f) [] []) else none
  | _ => none

def ofCells : List Value → Option (List AVal)
  | [] => some []
  | v :: vs => match ofCell v, ofCells vs with
    | some x, some xs => some (x :: xs)
    | _, _ => none

def ofVal : Value → Option AVal
  | .agg cs => (ofCells cs.toList).map .agg
  | v => ofCell v

def AFrame.op (fr : AFrame) : Operand → AVal
  | .tmp t => fr.ev t
  | .const v => (ofVal v).getD .undef
  | .global _ => .undef
  | .func f => .func (.func f) [] []

/- the tables of a program, laid so that a look-up is cheap -/
structure TInfo where
  desc : TypeDesc
  size : Nat
  bytes : Nat
  zero : Option AVal
  stood : Bool
  eqg : Bool

structure Tab where
  types : Tr TInfo
  funcs : Tr Func
  consts : Tr AVal := .leaf

def Tab.und (T : Tab) (t : Nat) : Option TypeDesc :=
  match T.types.get t with
  | some i => some i.desc
  | none => none

/- types -/
def isAggT (T : Tab) (t : TypeId) : Option Bool :=
  match T.und t with
  | some (.struct _) => some true
  | some (.array _ _) => some true
  | some _ => some false
  | none => none

def szT (T : Tab) (t : TypeId) : Option Nat :=
  match T.types.get t with
  | some i => some i.size
  | none => none

def zeroT (T : Tab) (t : TypeId) : Option AVal :=
  match T.types.get t with
  | some i => i.zero
  | none => none

def splice (cells : List AVal) (off : Nat) (vs : List AVal) : List AVal :=
  cells.take off ++ vs ++ cells.drop (off + vs.length)

def copies : Nat → List AVal → List AVal
  | 0, _ => []
  | n + 1, z => z ++ copies n z

def apart (T : Tab) (t : TypeId) (cs : List AVal) (off : Nat) : Option AVal :=
  match isAggT T t with
  | some true => match szT T t with
    | some n => if off + n ≤ cs.length then some (.agg ((cs.drop off).take n)) else none
    | none => none
  | some false => cs[off]?
  | none => none

def aload (T : Tab) (t : TypeId) (h : AHeap) (a : AVal) : Option AVal :=
  match a with
  | .ptr b off => match h.get b with
    | some (.arr cells _) => apart T t cells off
    | _ => none
  | _ => none

def astore (T : Tab) (t : TypeId) (h : AHeap) (a v : AVal) : Option AHeap :=
  match a with
  | .ptr b off => match h.get b with
    | some (.arr cells false) => match szT T t with
      | some n => if v.cells.length = n ∧ off + n ≤ cells.length ∧ v.cells.all AVal.one = true
          then some (h.set b (.arr (splice cells off v.cells) false)) else none
      | none => none
    | _ => none
  | _ => none

def aint (op : BinOp) (k : IntKind) (a b : Int) : Option AVal :=
  match op with
  | .add => some (.int k (k.wrap (a + b)))
  | .sub => some (.int k (k.wrap (a - b)))
  | .mul => some (.int k (k.wrap (a * b)))
  | .quo => if b = 0 then none else some (.int k (k.wrap (a.tdiv b)))
  | .rem => if b = 0 then none else some (.int k (a.tmod b))
  | .and => some (.int k (k.wrap ((BitVec.ofInt k.bits a &&& BitVec.ofInt k.bits b).toNat)))
  | .or => some (.int k (k.wrap ((BitVec.ofInt k.bits a ||| BitVec.ofInt k.bits b).toNat)))
  | .xor => some (.int k (k.wrap ((BitVec.ofInt k.bits a ^^^ BitVec.ofInt k.bits b).toNat)))
  | .andNot => some (.int k (k.wrap ((BitVec.ofInt k.bits a &&& ~~~ (BitVec.ofInt k.bits b)).toNat)))
  | .shl => if b < 0 then none else some (.int k (k.wrap (a * 2 ^ (min b.toNat k.bits))))
  | .shr => if b < 0 then none else some (.int k (a.fdiv (2 ^ (min b.toNat k.bits))))
  | .eql => some (.bool (a == b))
  | .neq => some (.bool (a != b))
  | .lss => some (.bool (a < b))
  | .leq => some (.bool (a ≤ b))
  | .gtr => some (.bool (a > b))
  | .geq => some (.bool (a ≥ b))

def aeqFields (f : Field → Option Bool) : List Field → Option Bool
  | [] => some true
  | x :: xs => if x.name ≠ "_" then
      (match f x with
       | some true => aeqFields f xs
       | some false => some false
       | none => none)
    else aeqFields f xs

def aeq (T : Tab) : Nat → TypeId → AVal → AVal → Option Bool
  | 0, _, _, _ => none
  | d + 1, t, x, y =>
    match T.und t, x, y with
    | some .bool, .bool a, .bool b => some (a == b)
    | some (.int _), .int k a, .int k' b => if k = k' then some (a == b) else none
    | some .string, .str a, .str b => some (a == b)
    | some (.pointer _), .nilptr, .nilptr => some true
    | some (.pointer _), .nilptr, .ptr _ _ => some false
    | some (.pointer _), .ptr _ _, .nilptr => some false
    | some (.slice _), .nilslice, .nilslice => some true
    | some (.slice _), .nilslice, .slice .. => some false
    | some (.slice _), .slice .., .nilslice => some false
    | some (.map _ _), .nilmap, .nilmap => some true
    | some (.map _ _), .nilmap, .map _ => some false
    | some (.map _ _), .map _, .nilmap => some false
    | some (.func ..), .nilfunc, .nilfunc => some true
    | some (.func ..), .nilfunc, .func .. => some false
    | some (.func ..), .func .., .nilfunc => some false
    | some (.interface _), .niliface, .iface .. => some false
    | some (.interface _), .iface .., .niliface => some false
    | some (.struct fields), .agg xs, .agg ys =>
      if ((T.types.get t).map (·.stood)).getD true then none else
      aeqFields (fun f => match apart T f.type xs f.offset, apart T f.type ys f.offset with
        | some u, some v => aeq T d f.type u v
        | _, _ => none) fields.toList
    | _, _, _ => none

/- the guard that the model lays before == and != -/
def aguard (T : Tab) (t : TypeId) (x y : AVal) : Bool :=
  match x, y with
  | .niliface, _ => (match y with | .niliface => false | .undef => false | _ => true)
  | .agg _, .agg _ => !((T.types.get t).map (·.eqg)).getD true
  | .undef, _ => false
  | _, .undef => false
  | _, _ => true

def abin (T : Tab) (op : BinOp) (t : TypeId) (x y : AVal) : Option AVal :=
  match x, y with
  | .int k a, .int k' b =>
    (match op with
     | .shl => aint op k a b
     | .shr => aint op k a b
     | _ => if k = k' then aint op k a b else none)
  | .str _, .str _ => none
  | x, y =>
    (match op with
     | .eql => if aguard T t x y then (aeq T 8 t x y).map .bool else none
     | .neq => if aguard T t x y then (aeq T 8 t x y).map (fun b => .bool (!b)) else none
     | _ => none)

def aun (op : UnOp) (x : AVal) : Option AVal :=
  match op, x with
  | .neg, .int k n => aint .sub k 0 n
  | .xor, .int k n => aint .xor k (if k.signed then -1 else k.max) n
  | .not, .bool b => some (.bool !b)
  | _, _ => none

def afieldAddr (T : Tab) (s : TypeId) (x : AVal) (i : Nat) : Option AVal :=
  match T.und s with
  | some (.struct fields) => match fields[i]? with
    | some f => match szT T f.type, x with
      | some n, .ptr b off => if n = 0 then none else some (.ptr b (off + f.offset))
      | _, _ => none
    | none => none
  | _ => none

def aindexAddr (T : Tab) (t : TypeId) (x ix : AVal) : Option AVal :=
  match ix with
  | .int _ i => match T.und t, x with
    | some (.array len elem), .ptr b off => match szT T elem with
      | some n => if 0 ≤ i ∧ i < len then some (.ptr b (off + i.toNat * n)) else none
      | none => none
    | some (.slice elem), .slice b off len es _ => match szT T elem with
      | some n => if 0 ≤ i ∧ i < len ∧ n = es then some (.ptr b (off + i.toNat * n)) else none
      | none => none
    | _, _ => none
  | _ => none

def aindex (T : Tab) (t : TypeId) (x ix : AVal) : Option AVal :=
  match ix with
  | .int _ i => match T.und t, x with
    | some (.array len elem), .agg cs => match szT T elem with
      | some n => if 0 ≤ i ∧ i < len then apart T elem cs (i.toNat * n) else none
      | none => none
    | _, _ => none
  | _ => none

def afield (T : Tab) (t : TypeId) (x : AVal) (i : Nat) : Option AVal :=
  match T.und t with
  | some (.struct fields) => match fields[i]?, x with
    | some f, .agg cs => apart T f.type cs f.offset
    | _, _ => none
  | _ => none

def afill (place : Nat → Option (Nat × Nat)) (cells : List AVal) : List (Nat × AVal) → Option (List AVal)
  | [] => some cells
  | (i, v) :: rest =>
    match place i with
    | none => none
    | some (off, size) =>
      if v.defd = true ∧ v.cells.length = size ∧ off + v.cells.length ≤ cells.length then afill place (splice cells off v.cells) rest else none

def aplaces (T : Tab) : List Field → Option (List (Nat × Nat))
  | [] => some []
  | f :: fs => match szT T f.type, aplaces T fs with
    | some n, some l => some ((f.offset, n) :: l)
    | _, _ => none

def abuild (T : Tab) (t : TypeId) (parts : List (Nat × AVal)) : Option AVal :=
  match zeroT T t with
  | some z => match T.und t with
    | some (.struct fields) => match aplaces T fields.toList with
      | some places => (afill (fun i => places[i]?) z.cells parts).map .agg
      | none => none
    | some (.array _ elem) => match szT T elem with
      | some n => (afill (fun i => some (i * n, n)) z.cells parts).map .agg
      | none => none
    | _ => none
  | none => none

def amakeRow (T : Tab) (elem : TypeId) (len : Nat) (cap : Option Nat) (n : Nat) (h : AHeap) (parts : List (Nat × AVal)) : Option (AVal × AHeap) :=
  match szT T elem with
  | some sz => if sz = 0 then none else
    match zeroT T elem with
    | some z => if z.cells.length = sz then
        (match afill (fun i => some (i * sz, sz)) (copies n z.cells) parts with
         | some cells => some (.slice h.next 0 len sz cap, h.push (.arr cells false))
         | none => none)
      else none
    | none => none
  | none => none

def abuildSlice (T : Tab) (t : TypeId) (len : Nat) (parts : List (Nat × AVal)) (h : AHeap) : Option (AVal × AHeap) :=
  match T.und t with
  | some (.slice elem) => if len * (szT T elem).getD 0 > 2 ^ 24 then none else amakeRow T elem len (some len) len h parts
  | _ => none

def amakeSlice (T : Tab) (t : TypeId) (l c : AVal) (h : AHeap) : Option (AVal × AHeap) :=
  match T.und t, l, c with
  | some (.slice elem), .int .i64 l, .int .i64 c =>
    match T.types.get elem with
    | some i => if 0 ≤ l ∧ l ≤ c ∧ i.bytes * c ≤ 2 ^ 47 ∧ c ≤ 2 ^ 62 then amakeRow T elem l.toNat (some c.toNat) c.toNat h [] else none
    | none => none
  | _, _, _ => none

/- bounds of a slice expression: low, high, max -/
def abound (x : Option AVal) (dflt top : Nat) : Option Nat :=
  match x with
  | none => some dflt
  | some (.int _ i) => if 0 ≤ i ∧ i ≤ top then some i.toNat else none
  | _ => none

def aslice (T : Tab) (t : TypeId) (x : AVal) (lo hi mx : Option AVal) : Option AVal :=
  match T.und t, x with
  | some (.slice elem), .slice b off len es cap =>
    if szT T elem = some es ∧ 0 < es then
      match cap, mx with
      | none, none => match abound hi len len with
        | some h => match abound lo 0 h with
          | some l => some (.slice b (off + l * es) (h - l) es none)
          | none => none
        | none => none
      | none, some m => match abound mx len len with
        | some m' => (match hi with
          | some _ => match abound hi len m' with
            | some h => match abound lo 0 h with
              | some l => some (.slice b (off + l * es) (h - l) es (some (m' - l)))
              | none => none
            | none => none
          | none => if m.one then none else none)
        | none => none
      | some c, _ => match abound mx c c with
        | some m' => match (if mx.isSome && hi.isNone then none else abound hi len m') with
          | some h => match abound lo 0 h with
            | some l => some (.slice b (off + l * es) (h - l) es (some (m' - l)))
            | none => none
          | none => none
        | none => none
    else none
  | some (.slice elem), .nilslice => match szT T elem, mx, abound hi 0 0, abound lo 0 0 with
    | some _, none, some _, some _ => some .nilslice
    | _, _, _, _ => none
  | _, _ => none

/- maps: keys are ints, or structs and arrays of such -/
def akey : AVal → AVal → Option Bool
  | .int k a, .int k' b => if k = k' then some (a == b) else none
  | .bool a, .bool b => some (a == b)
  | _, _ => none

def afind (k : AVal) : List (AVal × AVal) → Nat → Option (Option (Nat × AVal))
  | [], _ => some none
  | (k', v) :: es, i => match akey k k' with
    | some true => some (some (i, v))
    | some false => afind k es (i + 1)
    | none => none

def plainKey (T : Tab) (t : TypeId) (k : AVal) : Bool :=
  match T.und t, k with
  | some (.int j), .int j' _ => j == j'
  | some .bool, .bool _ => true
  | _, _ => false

def alookup (T : Tab) (t : TypeId) (x ix : AVal) (ok : Bool) (h : AHeap) : Option AVal :=
  match T.und t with
  | some (.map key elem) => if plainKey T key ix then
      (match (match x with
        | .nilmap => some []
        | .map r => match h.get r with
          | some (.mp es) => some es
          | _ => none
        | _ => none) with
      | some es => match afind ix es 0 with
        | some (some (_, v)) => some (if ok then .tuple [v, .bool true] else v)
        | some none => match zeroT T elem with
          | some z => some (if ok then .tuple [z, .bool false] else z)
          | none => none
        | none => none
      | none => none)
    else none
  | _ => none

def amapUpdate (T : Tab) (t : TypeId) (m k v : AVal) (h : AHeap) : Option AHeap :=
  match T.und t, m with
  | some (.map key _), .map r => if plainKey T key k then
      (match h.get r with
       | some (.mp es) => match afind k es 0 with
         | some (some (i, _)) => some (h.set r (.mp (es.set i (k, v))))
         | some none => some (h.set r (.mp (es ++ [(k, v)])))
         | none => none
       | _ => none)
    else none
  | _, _ => none

def alen (T : Tab) (t : TypeId) (x : AVal) (h : AHeap) : Option AVal :=
  match T.und t, x with
  | some (.slice _), .slice _ _ len _ _ => some (.int .i64 len)
  | some (.slice _), .nilslice => some (.int .i64 0)
  | some (.array n _), _ => some (.int .i64 n)
  | some (.map _ _), .nilmap => some (.int .i64 0)
  | some (.map _ _), .map r => match h.get r with
    | some (.mp es) => some (.int .i64 es.length)
    | _ => none
  | some .string, .str s => some (.int .i64 s.size)
  | _, _ => none

def amax : List AVal → Option AVal
  | [] => none
  | .int k x :: rest => rest.foldlM (init := AVal.int k x) (fun a b => match a, b with
    | .int k x, .int _ y => some (.int k (if y > x then y else x))
    | _, _ => none)
  | _ => none

def amin : List AVal → Option AVal
  | [] => none
  | .int k x :: rest => rest.foldlM (init := AVal.int k x) (fun a b => match a, b with
    | .int k x, .int _ y => some (.int k (if y < x then y else x))
    | _, _ => none)
  | _ => none

def lenOf : AVal → Nat
  | .slice _ _ len _ _ => len
  | _ => 0

/- the cells of a slice's first n elements -/
def arow (es n : Nat) (x : AVal) (h : AHeap) : Option (List AVal) :=
  match x with
  | .nilslice => if n = 0 then some [] else none
  | .slice b off len es' _ => if n = 0 then (if es' = es then some [] else none) else if es' = es ∧ n ≤ len then
      (match h.get b with
       | some (.arr cells _) => if off + n * es ≤ cells.length then some ((cells.drop off).take (n * es)) else none
       | _ => none)
    else none
  | _ => none

def aappend (T : Tab) (argTypes : Array TypeId) (s x : AVal) (h : AHeap) : Option (AVal × AHeap) :=
  match argTypes.toList with
  | [st, xt] =>
    if st ≠ xt then none else
    match T.und st with
    | some (.slice elem) =>
      match T.types.get elem with
      | some i =>
        let es := i.size
        let n := lenOf x
        match zeroT T elem with
        | none => none
        | some z =>
        if es = 0 ∨ z.cells.length ≠ es then none else
        match arow es n x h with
        | some news =>
          match s with
          | .nilslice => if n = 0 then some (.nilslice, h)
              else if n * i.bytes ≤ 2 ^ 46 ∧ n ≤ 2 ^ 62 then some (.slice h.next 0 n es none, h.push (.arr news false)) else none
          | .slice b off len es' cap =>
            if es' = es ∧ (len + n) * i.bytes ≤ 2 ^ 46 ∧ len + n ≤ 2 ^ 62 then
              match h.get b with
              | some (.arr cells ro) =>
                (match cap with
                 | some c =>
                   if len + n ≤ c then
                     (if ro = false ∧ off + (len + n) * es ≤ cells.length ∧ news.all AVal.one = true
                      then some (.slice b off (len + n) es cap, h.set b (.arr (splice cells (off + len * es) news) false)) else none)
                   else if off + len * es ≤ cells.length then
                     some (.slice h.next 0 (len + n) es none, h.push (.arr ((cells.drop off).take (len * es) ++ news) false)) else none
                 | none => if ro = false ∧ off + len * es ≤ cells.length ∧ news.all AVal.one = true then
                     some (.slice h.next 0 (len + n) es none, (h.set b .dead).push (.arr ((cells.drop off).take (len * es) ++ news) false)) else none)
              | _ => none
            else none
          | _ => none
        | none => none
      | none => none
    | _ => none
  | _ => none

def acopy (T : Tab) (argTypes : Array TypeId) (d s : AVal) (h : AHeap) : Option (AVal × AHeap) :=
  match argTypes[0]? with
  | some dt => match T.und dt with
    | some (.slice elem) => match szT T elem with
      | some es =>
        let n := Nat.min (lenOf s) (lenOf d)
        if es = 0 then none else
        match arow es n s h with
        | some news => match d with
          | .nilslice => some (.int .i64 n, h)
          | .slice b off _ es' _ => match h.get b with
            | some (.arr cells false) => if es' = es ∧ off + n * es ≤ cells.length ∧ news.all AVal.one = true then
                some (.int .i64 n, h.set b (.arr (splice cells off news) false)) else none
            | _ => none
          | _ => none
        | none => none
      | none => none
    | _ => none
  | none => none

def aconvert (T : Tab) (src dst : TypeId) (x : AVal) : Option AVal :=
  match T.und src, T.und dst, x with
  | some _, some (.int k), .int _ n => some (.int k (k.wrap n))
  | _, _, _ => none

/- what an operation comes to -/
inductive AN where
  | val (v : AVal) (h : AHeap)
  | call (f : AVal) (args : List AVal)

def optVal (h : AHeap) (x : Option AVal) : Option AN := x.map (AN.val · h)
def optPair (x : Option (AVal × AHeap)) : Option AN := x.map fun p => AN.val p.1 p.2
def optHeap (x : Option AHeap) : Option AN := x.map fun h => AN.val (.tuple []) h

def abuiltin (T : Tab) (b : Builtin) (argTypes : Array TypeId) (args : List AVal) (h : AHeap) : Option AN :=
  match b, args with
  | .len, [x] => match argTypes[0]? with
    | some t => optVal h (alen T t x h)
    | none => none
  | .append, [s, x] => optPair (aappend T argTypes s x h)
  | .copy, [d, s] => optPair (acopy T argTypes d s h)
  | .max, xs => optVal h (amax xs)
  | .min, xs => optVal h (amin xs)
  | _, _ => none

def opPick (ev : Operand → AVal) (h : AHeap) (c a b : Operand) : Option AN :=
  match ev c with
  | .bool t => some (.val (bif t then ev a else ev b) h)
  | _ => none

def opAlloc (T : Tab) (h : AHeap) (elem : TypeId) : Option AN :=
  match zeroT T elem with
  | some z => some (.val (.ptr h.next 0) (h.push (.arr z.cells false)))
  | none => none

def opBox (ev : Operand → AVal) (h : AHeap) (v : Operand) : Option AN :=
  match ev v with
  | .undef => none
  | x => some (.val (.ptr h.next 0) (h.push (.arr x.cells false)))

def evParts (ev : Operand → AVal) (parts : List (Nat × Operand)) : List (Nat × AVal) := parts.map fun p => (p.1, ev p.2)

def opNilCheck (h : AHeap) : AVal → Option AN
  | .ptr b off => some (.val (.ptr b off) h)
  | .func (.func f) a b => some (.val (.func (.func f) a b) h)
  | .func (.yield l) a b => some (.val (.func (.yield l) a b) h)
  | _ => none

def opMakeInterface (T : Tab) (h : AHeap) (t : TypeId) (x : AVal) : Option AN :=
  match T.und t with
  | some (.interface _) => none
  | some _ => some (.val (.iface t x) h)
  | none => none

def opMakeFunc (ev : Operand → AVal) (h : AHeap) (fn : Fn) (first captured : List Operand) : Option AN :=
  match fn with
  | .func f => some (.val (.func (.func f) (first.map ev) (captured.map ev)) h)
  | _ => none

def opMakeMap (T : Tab) (ev : Operand → AVal) (h : AHeap) (t : TypeId) (r : Option Operand) : Option AN :=
  match T.und t, (match r with | none => some 0 | some x => (match ev x with | .int _ n => some n | _ => none)) with
  | some (.map _ _), some _ => some (.val (.map h.next) (h.push (.mp [])))
  | _, _ => none

def opExtract (h : AHeap) (t : AVal) (i : Nat) : Option AN :=
  match t with
  | .tuple vs => optVal h (vs[i]?)
  | _ => none

def opCall (T : Tab) (ev : Operand → AVal) (h : AHeap) (c : Call) : Option AN :=
  match c.callee with
  | .builtin b => abuiltin T b c.argTypes (c.args.toList.map ev) h
  | .value f => some (.call (ev f) (c.args.toList.map ev))
  | _ => none

def aop (T : Tab) (ev : Operand → AVal) (h : AHeap) (op : Op) : Option AN :=
  match op with
  | .move x => some (.val (ev x) h)
  | .assign x => some (.val (ev x) h)
  | .pick c a b => opPick ev h c a b
  | .alloc elem => opAlloc T h elem
  | .box _ v => opBox ev h v
  | .build t parts => optVal h (abuild T t (evParts ev parts.toList))
  | .buildSlice t len parts => optPair (abuildSlice T t len (evParts ev parts.toList) h)
  | .load t a => optVal h (aload T t h (ev a))
  | .store t a x => optHeap (astore T t h (ev a) (ev x))
  | .nilCheck x => opNilCheck h (ev x)
  | .binOp op t x y _ => optVal h (abin T op t (ev x) (ev y))
  | .unOp op _ x => optVal h (aun op (ev x))
  | .convert src dst x => optVal h (aconvert T src dst (ev x))
  | .makeInterface t x => opMakeInterface T h t (ev x)
  | .makeFunc fn first captured => opMakeFunc ev h fn first.toList captured.toList
  | .makeMap t r => opMakeMap T ev h t r
  | .makeSlice t l c => optPair (amakeSlice T t (ev l) (ev c) h)
  | .slice t x lo hi mx => optVal h (aslice T t (ev x) (lo.map ev) (hi.map ev) (mx.map ev))
  | .fieldAddr s x f => optVal h (afieldAddr T s (ev x) f)
  | .field t x f => optVal h (afield T t (ev x) f)
  | .indexAddr t x ix => optVal h (aindexAddr T t (ev x) (ev ix))
  | .index t x ix => optVal h (aindex T t (ev x) (ev ix))
  | .lookup t x ix ok => optVal h (alookup T t (ev x) (ev ix) ok h)
  | .mapUpdate t m k x => optHeap (amapUpdate T t (ev m) (ev k) (ev x) h)
  | .insert t m k x => optHeap (amapUpdate T t (ev m) (ev k) (ev x) h)
  | .extract t i => opExtract h (ev t) i
  | .call c => opCall T ev h c
  | _ => none

def putDst (fr : AFrame) (dst : Option Nat) (v : AVal) : AFrame :=
  match dst with
  | some d => Tr.set fr d v
  | none => fr

/- the outcome of a call -/
inductive CRes where
  | ret (v : AVal)
  | pan (v : AVal)

inductive AExit where
  | normal
  | exit (id : Nat)
  | goto (l : Nat)
  | ret
  | pan (v : AVal)

abbrev Caller := AVal → List AVal → AHeap → Option (CRes × AHeap)

/- is an operation wanted: none: cannot tell -/
def awanted (ops : List Oper) (fr : AFrame) (g : Option (Nat × Bool)) : Option Bool :=
  match g with
  | none => some true
  | some (j, want) => match (ops[j]?).bind (fun (o : Oper) => o.dst) with
    | some d => match fr.ev d with
      | .bool b => some (b == want)
      | .undef => none
      | _ => some false
    | none => some false

/- what stands in a slot whose operation was passed over -/
def unit : AVal := .tuple []

/- what one operation reads and writes of the heap's old blocks -/
structure Foot where
  rd : List Nat
  rall : Bool
  wr : List Nat
  wall : Bool

def blkOf : AVal → List Nat
  | .ptr b _ => [b]
  | .slice b _ _ _ _ => [b]
  | .map r => [r]
  | _ => []

def mapOf : AVal → List Nat
  | .map r => [r]
  | _ => []

def foot (ev : Operand → AVal) (o : Oper) : Foot :=
  match o.op with
  | .load _ a => ⟨blkOf (ev a), false, [], false⟩
  | .store _ a _ => ⟨[], false, blkOf (ev a), false⟩
  | .lookup _ x _ _ => ⟨blkOf (ev x), false, [], false⟩
  | .mapUpdate _ m _ _ => ⟨[], false, blkOf (ev m), false⟩
  | .insert _ m _ _ => ⟨[], false, blkOf (ev m), false⟩
  | .call c => (match c.callee with
    | .builtin .len => ⟨(c.args.toList.map ev).flatMap mapOf, false, [], false⟩
    | .builtin .append => ⟨((c.args.toList.map ev).drop 1).flatMap blkOf, false, ((c.args.toList.map ev).take 1).flatMap blkOf, false⟩
    | .builtin .copy => ⟨((c.args.toList.map ev).drop 1).flatMap blkOf, false, ((c.args.toList.map ev).take 1).flatMap blkOf, false⟩
    | .builtin _ => ⟨[], false, [], false⟩
    | _ => ⟨[], true, [], false⟩)
  | _ => ⟨[], false, [], false⟩

def disj (a b : List Nat) : Bool := a.all fun x => !b.contains x

/- may i and j stand in either order? -/
def Foot.apart (a b : Foot) : Bool :=
  disj a.wr b.rd && disj a.wr b.wr && disj a.rd b.wr &&
  (!a.wall || (b.rd.isEmpty && b.wr.isEmpty && !b.rall && !b.wall)) && (!b.wall || (a.rd.isEmpty && a.wr.isEmpty && !a.rall && !a.wall)) &&
  (!a.rall || (b.wr.isEmpty && !b.wall)) && (!b.rall || (a.wr.isEmpty && !a.wall))

/- the operations that come before operation j by the edges, told as a table: entry i says whether i is before j -/
def before (ops : List Oper) : Nat → List Nat → List Nat → List Nat
  | 0, _, seen => seen
  | _ + 1, [], seen => seen
  | k + 1, j :: todo, seen =>
    let es := match ops[j]? with
      | some o => (o.after.toList.filter (Region.binds .any)).map (fun (e : Edge) => e.on)
      | none => []
    let news := es.filter fun i => !seen.contains i
    before ops k (news ++ todo) (news ++ seen)

def allBefore (ops : List Oper) (j : Nat) : List Nat := before ops ((ops.length + 1) * (ops.length + 1)) [j] []

/- every earlier operation that is not apart from the new one stands before it -/
def footsOk (ops : List Oper) (j : Nat) (f : Foot) (done : List (Nat × Foot)) : Bool :=
  if done.all (fun p => p.2.apart f) then true
  else
    let b := allBefore ops j
    done.all fun p => p.2.apart f || b.contains p.1

/- one operation, run -/
def astep (T : Tab) (call : Caller) (ev : Operand → AVal) (o : Op) (h : AHeap) : Option (CRes × AHeap) :=
  match aop T ev h o with
  | some (.val v h') => some (.ret v, h')
  | some (.call f args) => call f args h
  | none => none

/- the operations of a region in the order of the text -/
def aops (T : Tab) (call : Caller) (ops : List Oper) : List Oper → AFrame → AHeap → Option (AExit × AFrame × AHeap)
  | [], fr, h => some (.normal, fr, h)
  | o :: rest, fr, h =>
    match awanted ops fr o.guard with
    | some true => match astep T call fr.op o.op h with
      | some (.ret v, h') => aops T call ops rest (putDst fr o.dst v) h'
      | some (.pan v, h') => some (.pan v, fr, h')
      | none => none
    | some false => aops T call ops rest (putDst fr o.dst unit) h
    | none => none

def footOf (f : Foot) (h h' : AHeap) : Foot :=
  bif f.rall then { f with wall := !(Nat.ble h.next h'.wm) } else f

/- the same for a region that draws its order: no two operations that the order leaves open may disturb each other -/
def adraw (T : Tab) (call : Caller) (ops : List Oper) : List Oper → Nat → List (Nat × Foot) → AFrame → AHeap → Option (AFrame × AHeap)
  | [], _, _, fr, h => some (fr, h)
  | o :: rest, i, done, fr, h =>
    match awanted ops fr o.guard with
    | some true =>
      (match astep T call fr.op o.op { h with wm := h.next } with
      | some (.ret v, h') =>
        match footOf (foot fr.op o) h h' with
        | f => bif footsOk ops i f done then adraw T call ops rest (i + 1) ((i, f) :: done) (putDst fr o.dst v) { h' with wm := min h.wm h'.wm } else none
      | _ => none)
    | some false => adraw T call ops rest (i + 1) done (putDst fr o.dst unit) h
    | none => none

def aresult (T : Tab) (fr : AFrame) (h : AHeap) : ResultVar → Option AVal
  | .tmp t => some (fr.ev t)
  | .cell a t => aload T t h (fr.ev a)

def aresults (T : Tab) (rs : List ResultVar) (fr : AFrame) (h : AHeap) : Option (List AVal) :=
  match rs with
  | [] => some []
  | r :: rs => match aresult T fr h r, aresults T rs fr h with
    | some v, some vs => some (v :: vs)
    | _, _ => none

def packed : List AVal → AVal
  | [v] => v
  | vs => .tuple vs

def argFrame : Nat → List AVal → AFrame → AFrame
  | _, [], fr => fr
  | i, v :: vs, fr => argFrame (i + 1) vs (Tr.set fr i v)

def putParams : List Nat → List AVal → AFrame → AFrame
  | p :: ps, v :: vs, fr => putParams ps vs (Tr.set fr p v)
  | _, _, fr => fr

abbrev Runner := Code → AFrame → AHeap → Option (AExit × AFrame × AHeap)

def acallFn (T : Tab) (run : Runner) (f : FuncId) (args : List AVal) (h : AHeap) : Option (CRes × AHeap) :=
  match T.funcs.get f with
  | some F => bif Nat.blt F.ntmps args.length then none else match F.body with
    | some c => match run c (argFrame 0 args .leaf) h with
      | some (.normal, fr, h') => match aresults T F.results.toList fr h' with
        | some vs => some (.ret (packed vs), h')
        | none => none
      | some (.ret, fr, h') => match aresults T F.results.toList fr h' with
        | some vs => some (.ret (packed vs), h')
        | none => none
      | some (.pan v, _, h') => some (.pan v, h')
      | _ => none
    | none => none
  | none => none

def around (run : Runner) (l : Nat) (args : List AVal) (h : AHeap) : Option (CRes × AHeap) :=
  match h.get l with
  | some (.loop L) => if L.state = .ready ∧ args.length = L.params.length then
      match run L.assign (putParams L.params args L.fr) h with
      | some (.normal, fr, h1) => (match h1.get l with
        | some (.loop L1) => if L1.state = .ready then
            match run L.body fr (h1.set l (.loop { L with state := .busy })) with
            | some (.normal, _, h2) => some (.ret (.bool true), h2.set l (.loop { L with state := .ready, pending := none }))
            | some (.ret, _, h2) => some (.ret (.bool false), h2.set l (.loop { L with state := .done, pending := some .ret }))
            | some (.exit id, _, h2) => some (.ret (.bool false), h2.set l (.loop { L with state := .done, pending := some (.exit id) }))
            | some (.pan v, _, h2) => some (.pan v, h2)
            | _ => none
          else none
        | _ => none)
      | _ => none
    else none
  | _ => none

def acall (T : Tab) (run : Runner) : Caller := fun f args h =>
  match f with
  | .func (.func g) first captured => (match T.consts.get g, first, args, captured with
    | some v, [], [], [] => some (.ret v, h)
    | _, _, _, _ => acallFn T run g (first ++ args ++ captured) h)
  | .func (.yield l) first _ => around run l (first ++ args) h
  | _ => none

def aexec (T : Tab) : Nat → Runner
  | 0, _, _, _ => none
  | n + 1, c, fr, h =>
    match c with
    | .skip => some (.normal, fr, h)
    | .label _ => some (.normal, fr, h)
    | .region _ ops draw =>
      if draw then (match adraw T (acall T (aexec T n)) ops.toList ops.toList 0 [] fr h with
        | some (fr', h') => some (.normal, fr', h')
        | none => none)
      else aops T (acall T (aexec T n)) ops.toList ops.toList fr h
    | .seq a b => match aexec T n a fr h with
      | some (.normal, fr', h') => aexec T n b fr' h'
      | r => r
    | .cond c a b => match fr.op c with
      | .bool t => aexec T n (if t then a else b) fr h
      | _ => none
    | .block id c => match aexec T n c fr h with
      | some (.exit id', fr', h') => if id' = id then some (.normal, fr', h') else some (.exit id', fr', h')
      | r => r
    | .loop c => match aexec T n c fr h with
      | some (.normal, fr', h') => aexec T n (.loop c) fr' h'
      | r => r
    | .rangeFunc f params assign body =>
      match acall T (aexec T n) (fr.op f) [.func (.yield h.next) [] []] (h.push (.loop { state := .ready, pending := none, fr, params := params.toList, assign, body })) with
      | some (.ret _, h2) => match h2.get h.next with
        | some (.loop L) => if L.state = .busy then none else
          match L.pending with
          | none => some (.normal, fr, h2.set h.next (.loop { L with state := .exhausted }))
          | some .ret => some (.ret, fr, h2.set h.next (.loop { L with state := .exhausted }))
          | some (.exit id) => some (.exit id, fr, h2.set h.next (.loop { L with state := .exhausted }))
          | _ => none
        | _ => none
      | some (.pan v, h2) => some (.pan v, fr, h2)
      | none => none
    | .exit id => some (.exit id, fr, h)
    | .scope c => (match aexec T n c fr h with
      | some (.goto _, _, _) => none
      | r => r)
    | .goto l => some (.goto l, fr, h)
    | .ret => some (.ret, fr, h)
    | .refuse _ => none

end Go.Ai
