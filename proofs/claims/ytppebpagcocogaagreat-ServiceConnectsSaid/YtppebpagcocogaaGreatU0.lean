/- An abstract interpreter for the model's code: definitions. No theorem of a law stands here. -/
import GoSem.Step
import GoSem.Core.Float
import GoSem.Dispatch
import Derived.Calls
import Derived.Laws.CopyRow
import Derived.Laws.Append
import Derived.Laws.AppendOwn
import Derived.Laws.Rows
import Derived.Laws.MakeOwn
import Derived.Laws.StructEq
import Derived.Laws.Build
set_option linter.unusedSimpArgs false
set_option linter.unusedVariables false
set_option linter.unusedSectionVars false
namespace Go.Ai
inductive ze where
 | undef
 | bool (b:Bool)
 | int (k:IntKind) (n:Int)
 | float (k:FloatKind) (bits:Nat)
 | str (s:ByteArray)
 | ptr (b off:Nat)
 | nilptr
 | slice (b off len es:Nat) (cap:Option Nat)
 | nilslice
 | map (r:Nat)
 | nilmap
 | func (fn:Fn) (first captured:List ze)
 | nilfunc
 | iface (t:TypeId) (v:ze)
 | niliface
 | agg (cs:List ze)
 | tuple (vs:List ze)
 deriving Inhabited
def ze.cells:ze->List ze
 | .agg cs=>cs
 | v=>[v]
def ze.one:ze->Bool
 | .undef | .agg _ | .tuple _=>false
 | _=>true
def ze.defd:ze->Bool
 | .undef=>false
 | _=>true
inductive Tr (α:Type) where
 | leaf
 | node (v:Option α) (l r:Tr α)
def Tr.get {α:Type}:Tr α->Nat->Option α
 | .leaf,_=>none
 | .node v l r,n=>
  match n with
  | 0=>v
  | m+1=>bif Nat.beq (Nat.mod m 2) 0 then l.get (Nat.div m 2) else r.get (Nat.div m 2)
def Tr.put {α:Type}:Nat->Tr α->Nat->α->Tr α
 | 0,t,_,_=>t
 | k+1,.leaf,n,x=>
  match n with
  | 0=>.node (some x) .leaf .leaf
  | m+1=>bif Nat.beq (Nat.mod m 2) 0 then .node none (Tr.put k .leaf (Nat.div m 2) x) .leaf else .node none .leaf (Tr.put k .leaf (Nat.div m 2) x)
 | k+1,.node v l r,n,x=>
  match n with
  | 0=>.node (some x) l r
  | m+1=>bif Nat.beq (Nat.mod m 2) 0 then .node v (Tr.put k l (Nat.div m 2) x) r else .node v l (Tr.put k r (Nat.div m 2) x)
def Tr.set {α:Type} (t:Tr α) (n:Nat) (x:α):Tr α:=Tr.put (n+1) t n x
abbrev zf:=Tr ze
def zf.ev (fr:zf) (t:Nat):ze:=(Tr.get fr t).getD .undef
structure zhA where
 state:LoopState
 pending:Option Code
 fr:zf
 params:List Nat
 assign:Code
 body:Code
inductive zfy where
 | arr (cells:List ze) (ro:Bool)
 | mp (es:List (ze×ze))
 | loop (l:zhA)
 | dead
structure za where
 m:Tr zfy
 next:Nat
 wm:Nat
def za.get (h:za) (b:Nat):Option zfy:=h.m.get b
def za.set (h:za) (b:Nat) (x:zfy):za:={ m:=h.m.set b x,next:=h.next,wm:=min h.wm b }
def za.push (h:za) (x:zfy):za:={ m:=h.m.set h.next x,next:=h.next+1,wm:=h.wm }
def zkS:Value->Option ze
 | .bool b=>some (.bool b)
 | .int k n=>some (.int k n)
 | .float k b=>some (.float k b)
 | .string s=>some (.str s)
 | .pointer none=>some .nilptr
 | .slice none l c=>if l=0/\c=0 then some .nilslice else none
 | .map none=>some .nilmap
 | .nilFunc=>some .nilfunc
 | .nilIface=>some .niliface
 | .func (.func f) first captured=>if first.size=0/\captured.size=0 then some (.func (.func f) [] []) else none
 | _=>none
def zgr:List Value->Option (List ze)
 | []=>some []
 | v::vs=>match zkS v,zgr vs with
  | some x,some xs=>some (x::xs)
  | _,_=>none
def zhe:Value->Option ze
 | .agg cs=>(zgr cs.toList).map .agg
 | v=>zkS v
def zf.op (fr:zf):Operand->ze
 | .tmp t=>fr.ev t
 | .const v=>(zhe v).getD .undef
 | .global _=>.undef
 | .func f=>.func (.func f) [] []
structure zqY where
 desc:TypeDesc
 size:Nat
 bytes:Nat
 zero:Option ze
 stood:Bool
 eqg:Bool
structure zbO where
 ntmps:Nat
 results:List ResultVar
 pre:List Code
 id:Nat
 mko:Oper
 tmp:Nat
 dfr:Oper
 post:Code
 fn:FuncId
 cn:Nat
 cid:Nat
 rop:Oper
 mop:Oper
 p1:Nat
 p2:Nat
 rest:Code
structure Tab where
 types:Tr zqY
 funcs:Tr Func
 consts:Tr (List ze->Option ze):=.leaf
 defs:Tr zbO:=.leaf
def Tab.und (T:Tab) (t:Nat):Option TypeDesc:=
 match T.types.get t with
 | some i=>some i.desc
 | none=>none
def zdI (T:Tab) (t:TypeId):Option Bool:=
 match T.und t with
 | some (.struct _)=>some true
 | some (.array _ _)=>some true
 | some _=>some false
 | none=>none
def szT (T:Tab) (t:TypeId):Option Nat:=
 match T.types.get t with
 | some i=>some i.size
 | none=>none
def zeR (T:Tab) (t:TypeId):Option ze:=
 match T.types.get t with
 | some i=>i.zero
 | none=>none
def splice (cells:List ze) (off:Nat) (vs:List ze):List ze:=
 cells.take off++vs++cells.drop (off+vs.length)
def copies:Nat->List ze->List ze
 | 0,_=>[]
 | n+1,z=>z++copies n z
def apart (T:Tab) (t:TypeId) (cs:List ze) (off:Nat):Option ze:=
 match zdI T t with
 | some true=>match szT T t with
  | some n=>if off+n<=cs.length then some (.agg ((cs.drop off).take n)) else none
  | none=>none
 | some false=>cs[off]?
 | none=>none
def aload (T:Tab) (t:TypeId) (h:za) (a:ze):Option ze:=
 match a with
 | .ptr b off=>match h.get b with
  | some (.arr cells _)=>apart T t cells off
  | _=>none
 | _=>none
def astore (T:Tab) (t:TypeId) (h:za) (a v:ze):Option za:=
  match a with
  | .ptr b off=>match h.get b with
    | some (.arr cells false)=>match szT T t with
      | some n=>if v.cells.length=n/\off+n<=cells.length/\v.cells.all ze.one=true
          then some (h.set b (.arr (splice cells off v.cells) false)) else none
      | none=>none
    | _=>none
  | _=>none
def aint (op:BinOp) (k:IntKind) (a b:Int):Option ze:=
 match op with
 | .add=>some (.int k (k.wrap (a+b)))
 | .sub=>some (.int k (k.wrap (a-b)))
 | .mul=>some (.int k (k.wrap (a*b)))
 | .quo=>if b=0 then none else some (.int k (k.wrap (a.tdiv b)))
 | .rem=>if b=0 then none else some (.int k (a.tmod b))
 | .and=>some (.int k (k.wrap ((BitVec.ofInt k.bits a &&& BitVec.ofInt k.bits b).toNat)))
 | .or=>some (.int k (k.wrap ((BitVec.ofInt k.bits a ||| BitVec.ofInt k.bits b).toNat)))
 | .xor=>some (.int k (k.wrap ((BitVec.ofInt k.bits a ^^^ BitVec.ofInt k.bits b).toNat)))
 | .andNot=>some (.int k (k.wrap ((BitVec.ofInt k.bits a &&& ~~~ (BitVec.ofInt k.bits b)).toNat)))
 | .shl=>if b<0 then none else some (.int k (k.wrap (a*2 ^ (min b.toNat k.bits))))
 | .shr=>if b<0 then none else some (.int k (a.fdiv (2 ^ (min b.toNat k.bits))))
 | .eql=>some (.bool (a==b))
 | .neq=>some (.bool (a !=b))
 | .lss=>some (.bool (a<b))
 | .leq=>some (.bool (a<=b))
 | .gtr=>some (.bool (a>b))
 | .geq=>some (.bool (a>=b))
def zc4 (f:Field->Option Bool):List Field->Option Bool
  | []=>some true
  | x :: xs => if x.name ≠ "_" then
      (match f x with
       | some true=>zc4 f xs
       | some false=>some false
       | none=>none)
    else zc4 f xs
def aeq (T:Tab):Nat->TypeId->ze->ze->Option Bool
 | 0,_,_,_=>none
 | d+1,t,x,y=>
  match T.und t,x,y with
  | some .bool,.bool a,.bool b=>some (a==b)
  | some (.int _),.int k a,.int k' b=>if k=k' then some (a==b) else none
  | some .string,.str a,.str b=>some (a==b)
  | some (.pointer _),.nilptr,.nilptr=>some true
  | some (.pointer _),.nilptr,.ptr _ _=>some false
  | some (.pointer _),.ptr _ _,.nilptr=>some false
  | some (.slice _),.nilslice,.nilslice=>some true
  | some (.slice _),.nilslice,.slice ..=>some false
  | some (.slice _),.slice ..,.nilslice=>some false
  | some (.map _ _),.nilmap,.nilmap=>some true
  | some (.map _ _),.nilmap,.map _=>some false
  | some (.map _ _),.map _,.nilmap=>some false
  | some (.func ..),.nilfunc,.nilfunc=>some true
  | some (.func ..),.nilfunc,.func ..=>some false
  | some (.func ..),.func ..,.nilfunc=>some false
  | some (.interface _),.niliface,.niliface=>some true
  | some (.interface _),.niliface,.iface ..=>some false
  | some (.interface _),.iface ..,.niliface=>some false
  | some (.struct fields),.agg xs,.agg ys=>
   if ((T.types.get t).map (·.stood)).getD true then none else
   zc4 (λf=>match apart T f.type xs f.offset,apart T f.type ys f.offset with
    | some u,some v=>aeq T d f.type u v
    | _,_=>none) fields.toList
  | _,_,_=>none
def aguard (T:Tab) (t:TypeId) (x y:ze):Bool:=
 match x,y with
 | .niliface,_=>(match y with | .niliface=>(match T.und t with | some (.interface ms)=>ms.isEmpty | _=>false) | .undef=>false | _=>true)
 | .agg _,.agg _=>!((T.types.get t).map (·.eqg)).getD true
 | .undef,_=>false
 | _,.undef=>false
 | _,_=>true
def abin (T:Tab) (op:BinOp) (t:TypeId) (x y:ze):Option ze:=
  match x,y with
  | .int k a,.int k' b=>
    (match op with
     | .shl=>aint op k a b
     | .shr=>aint op k a b
     | _=>if k=k' then aint op k a b else none)
  | .str _,.str _=>none
  | x,y=>
    (match op with
     | .eql=>if aguard T t x y then (aeq T 8 t x y).map .bool else none
     | .neq=>if aguard T t x y then (aeq T 8 t x y).map (λb=>.bool (!b)) else none
     | _=>none)
def aun (op:UnOp) (x:ze):Option ze:=
 match op,x with
 | .neg,.int k n=>aint .sub k 0 n
 | .xor,.int k n=>aint .xor k (if k.signed then -1 else k.max) n
 | .not,.bool b=>some (.bool !b)
 | _,_=>none
def ze5 (T:Tab) (s:TypeId) (x:ze) (i:Nat):Option ze:=
 match T.und s with
 | some (.struct fields)=>match fields[i]? with
  | some f=>match szT T f.type,x with
   | some n,.ptr b off=>if n=0 then none else some (.ptr b (off+f.offset))
   | _,_=>none
  | none=>none
 | _=>none
def zde (T:Tab) (t:TypeId) (x ix:ze):Option ze:=
 match ix with
 | .int _ i=>match T.und t,x with
  | some (.array len elem),.ptr b off=>match szT T elem with
   | some n=>if 0<=i/\i<len then some (.ptr b (off+i.toNat*n)) else none
   | none=>none
  | some (.slice elem),.slice b off len es _=>match szT T elem with
   | some n=>if 0<=i/\i<len/\n=es then some (.ptr b (off+i.toNat*n)) else none
   | none=>none
  | _,_=>none
 | _=>none
def aindex (T:Tab) (t:TypeId) (x ix:ze):Option ze:=
 match ix with
 | .int _ i=>match T.und t,x with
  | some (.array len elem),.agg cs=>match szT T elem with
   | some n=>if 0<=i/\i<len then apart T elem cs (i.toNat*n) else none
   | none=>none
  | some .string,.str s=>if 0<=i then (s[i.toNat]?).map λb=>.int .u8 b.toNat else none
  | _,_=>none
 | _=>none
def afield (T:Tab) (t:TypeId) (x:ze) (i:Nat):Option ze:=
 match T.und t with
 | some (.struct fields)=>match fields[i]?,x with
  | some f,.agg cs=>apart T f.type cs f.offset
  | _,_=>none
 | _=>none
def afill (place:Nat->Option (Nat×Nat)) (cells:List ze):List (Nat×ze)->Option (List ze)
 | []=>some cells
 | (i,v)::rest=>
  match place i with
  | none=>none
  | some (off,size)=>
   if v.defd=true/\v.cells.length=size/\off+v.cells.length<=cells.length then afill place (splice cells off v.cells) rest else none
def aplaces (T:Tab):List Field->Option (List (Nat×Nat))
 | []=>some []
 | f::fs=>match szT T f.type,aplaces T fs with
  | some n,some l=>some ((f.offset,n)::l)
  | _,_=>none
def abuild (T:Tab) (t:TypeId) (parts:List (Nat×ze)):Option ze:=
 match zeR T t with
 | some z=>match T.und t with
  | some (.struct fields)=>match aplaces T fields.toList with
   | some places=>(afill (λi=>places[i]?) z.cells parts).map .agg
   | none=>none
  | some (.array _ elem)=>match szT T elem with
   | some n=>(afill (λi=>some (i*n,n)) z.cells parts).map .agg
   | none=>none
  | _=>none
 | none=>none
def zcM (T:Tab) (elem:TypeId) (len:Nat) (cap:Option Nat) (n:Nat) (h:za) (parts:List (Nat×ze)):Option (ze×za):=
  match szT T elem with
  | some sz=>if sz=0 then none else
    match zeR T elem with
    | some z=>if z.cells.length=sz then
        (match afill (λi=>some (i*sz,sz)) (copies n z.cells) parts with
         | some cells=>some (.slice h.next 0 len sz cap,h.push (.arr cells false))
         | none=>none)
      else none
    | none=>none
  | none=>none
def zdG (T:Tab) (t:TypeId) (len:Nat) (parts:List (Nat×ze)) (h:za):Option (ze×za):=
 match T.und t with
 | some (.slice elem)=>if len*(szT T elem).getD 0>2 ^ 24 then none else zcM T elem len (some len) len h parts
 | _=>none
def zef (T:Tab) (t:TypeId) (l c:ze) (h:za):Option (ze×za):=
 match T.und t,l,c with
 | some (.slice elem),.int .i64 l,.int .i64 c=>
  match T.types.get elem with
  | some i=>if 0<=l/\l<=c/\i.bytes*c<=2 ^ 47/\c<=2 ^ 62 then zcM T elem l.toNat (some c.toNat) c.toNat h [] else none
  | none=>none
 | _,_,_=>none
def abound (x:Option ze) (dflt top:Nat):Option Nat:=
 match x with
 | none=>some dflt
 | some (.int _ i)=>if 0<=i/\i<=top then some i.toNat else none
 | _=>none
def aslice (T:Tab) (t:TypeId) (x:ze) (lo hi mx:Option ze):Option ze:=
 match T.und t,x with
 | some (.slice elem),.slice b off len es cap=>
  if szT T elem=some es/\0<es then
   match cap,mx with
   | none,none=>match abound hi len len with
    | some h=>match abound lo 0 h with
     | some l=>some (.slice b (off+l*es) (h-l) es none)
     | none=>none
    | none=>none
   | none,some m=>match abound mx len len with
    | some m'=>(match hi with
     | some _=>match abound hi len m' with
      | some h=>match abound lo 0 h with
       | some l=>some (.slice b (off+l*es) (h-l) es (some (m'-l)))
       | none=>none
      | none=>none
     | none=>if m.one then none else none)
    | none=>none
   | some c,_=>match abound mx c c with
    | some m'=>match (if mx.isSome&&hi.isNone then none else abound hi len m') with
     | some h=>match abound lo 0 h with
      | some l=>some (.slice b (off+l*es) (h-l) es (some (m'-l)))
      | none=>none
     | none=>none
    | none=>none
  else none
 | some (.slice elem),.nilslice=>match szT T elem,mx,abound hi 0 0,abound lo 0 0 with
  | some _,none,some _,some _=>some .nilslice
  | _,_,_,_=>none
 | _,_=>none
def zhf:ze->ze->Option Bool
 | .int k a,.int k' b=>if k=k' then some (a==b) else none
 | .bool a,.bool b=>some (a==b)
 | _,_=>none
def akeys:List ze->List ze->Option Bool
 | [],[]=>some true
 | a::as,b::bs=>match zhf a b with
  | some true=>akeys as bs
  | some false=>some false
  | none=>none
 | _,_=>none
def akey:ze->ze->Option Bool
 | .agg as,.agg bs=>akeys as bs
 | a,b=>zhf a b
def afind (k:ze):List (ze×ze)->Nat->Option (Option (Nat×ze))
 | [],_=>some none
 | (k',v)::es,i=>match akey k k' with
  | some true=>some (some (i,v))
  | some false=>afind k es (i+1)
  | none=>none
def zhB (T:Tab) (t:TypeId) (k:ze):Bool:=
 match T.und t,k with
 | some (.int j),.int j' _=>j==j'
 | some .bool,.bool _=>true
 | _,_=>false
def zfe (T:Tab):Nat->List Field->List ze->Bool
 | _,[],[]=>true
 | i, f :: fs, v :: vs => (f.name != "_") && Nat.beq f.offset i && zhB T f.type v && zfe T (i + 1) fs vs
 | _,_,_=>false
def zgP (T:Tab) (t:TypeId) (k:ze):Bool:=
 match T.und t,k with
 | some (.int j),.int j' _=>j==j'
 | some .bool,.bool _=>true
 | some (.struct fs),.agg cs=>zfe T 0 fs.toList cs&&!((T.types.get t).map (·.stood)).getD true
 | _,_=>false
def alookup (T:Tab) (t:TypeId) (x ix:ze) (ok:Bool) (h:za):Option ze:=
  match T.und t with
  | some (.map key elem)=>if zgP T key ix then
      (match (match x with
        | .nilmap=>some []
        | .map r=>match h.get r with
          | some (.mp es)=>some es
          | _=>none
        | _=>none) with
      | some es=>match afind ix es 0 with
        | some (some (_,v))=>some (if ok then .tuple [v,.bool true] else v)
        | some none=>match zeR T elem with
          | some z=>some (if ok then .tuple [z,.bool false] else z)
          | none=>none
        | none=>none
      | none=>none)
    else none
  | _=>none
def zbo (T:Tab) (t:TypeId) (m k v:ze) (h:za):Option za:=
  match T.und t,m with
  | some (.map key _),.map r=>if zgP T key k then
      (match h.get r with
       | some (.mp es)=>match afind k es 0 with
         | some (some (i,_))=>some (h.set r (.mp (es.set i (k,v))))
         | some none=>some (h.set r (.mp (es++[(k,v)])))
         | none=>none
       | _=>none)
    else none
  | _,_=>none
def alen (T:Tab) (t:TypeId) (x:ze) (h:za):Option ze:=
 match T.und t,x with
 | some (.slice _),.slice _ _ len _ _=>some (.int .i64 len)
 | some (.slice _),.nilslice=>some (.int .i64 0)
 | some (.array n _),_=>some (.int .i64 n)
 | some (.map _ _),.nilmap=>some (.int .i64 0)
 | some (.map _ _),.map r=>match h.get r with
  | some (.mp es)=>some (.int .i64 es.length)
  | _=>none
 | some .string,.str s=>some (.int .i64 s.size)
 | _,_=>none
def acap (T:Tab) (t:TypeId) (x:ze):Option ze:=
 match T.und t,x with
 | some (.slice _),.nilslice=>some (.int .i64 0)
 | some (.slice _),.slice _ _ _ _ (some c)=>some (.int .i64 c)
 | _,_=>none
def amax:List ze->Option ze
 | []=>none
 | .int k x::rest=>rest.foldlM (init:=ze.int k x) (λa b=>match a,b with
  | .int k x,.int _ y=>some (.int k (if y>x then y else x))
  | _,_=>none)
 | _=>none
def amin:List ze->Option ze
 | []=>none
 | .int k x::rest=>rest.foldlM (init:=ze.int k x) (λa b=>match a,b with
  | .int k x,.int _ y=>some (.int k (if y<x then y else x))
  | _,_=>none)
 | _=>none
def lenOf:ze->Nat
 | .slice _ _ len _ _=>len
 | _=>0
def arow (es n:Nat) (x:ze) (h:za):Option (List ze):=
  match x with
  | .nilslice=>if n=0 then some [] else none
  | .slice b off len es' _=>if n=0 then (if es'=es then some [] else none) else if es'=es/\n<=len then
      (match h.get b with
       | some (.arr cells _)=>if off+n*es<=cells.length then some ((cells.drop off).take (n*es)) else none
       | _=>none)
    else none
  | _=>none
def azeros (T:Tab) (st xt:TypeId) (s x:ze) (h:za):Option (ze×za):=
  match T.und xt,T.und st,s,x with
  | some (.int .i64),some (.slice elem),.nilslice,.int .i64 n=>
    match T.types.get elem with
    | some i=>match zeR T elem with
      | some z=>if i.size=0\/z.cells.length≠i.size then none
          else if 0<n/\n.toNat*i.bytes<=2 ^ 46/\n<=2 ^ 62 then some (.slice h.next 0 n.toNat i.size none,h.push (.arr (copies n.toNat z.cells) false)) else none
      | none=>none
    | none=>none
  | _,_,_,_=>none
def aappend (T:Tab) (argTypes:Array TypeId) (s x:ze) (h:za):Option (ze×za):=
  match argTypes.toList with
  | [st,xt]=>
    if st≠xt then azeros T st xt s x h else
    match T.und st with
    | some (.slice elem)=>
      match T.types.get elem with
      | some i=>
        let es:=i.size
        let n:=lenOf x
        match zeR T elem with
        | none=>none
        | some z=>
        if es=0\/z.cells.length≠es then none else
        match arow es n x h with
        | some news=>
          match s with
          | .nilslice=>if n=0 then some (.nilslice,h)
              else if n*i.bytes<=2 ^ 46/\n<=2 ^ 62 then some (.slice h.next 0 n es none,h.push (.arr news false)) else none
          | .slice b off len es' cap=>
            if es'=es/\(len+n)*i.bytes<=2 ^ 46/\len+n<=2 ^ 62 then
              match h.get b with
              | some (.arr cells ro)=>
                (match cap with
                 | some c=>
                   if len+n<=c then
                     (if ro=false/\off+(len+n)*es<=cells.length/\news.all ze.one=true
                      then some (.slice b off (len+n) es cap,h.set b (.arr (splice cells (off+len*es) news) false)) else none)
                   else if off+len*es<=cells.length then
                     some (.slice h.next 0 (len+n) es none,h.push (.arr ((cells.drop off).take (len*es)++news) false)) else none
                 | none=>if ro=false/\off+len*es<=cells.length/\news.all ze.one=true then
                     some (.slice h.next 0 (len+n) es none,(h.set b .dead).push (.arr ((cells.drop off).take (len*es)++news) false)) else none)
              | _=>none
            else none
          | _=>none
        | none=>none
      | none=>none
    | _=>none
  | _=>none
def acopy (T:Tab) (argTypes:Array TypeId) (d s:ze) (h:za):Option (ze×za):=
  match argTypes[0]? with
  | some dt=>match T.und dt with
    | some (.slice elem)=>match szT T elem with
      | some es=>
        let n:=Nat.min (lenOf s) (lenOf d)
        if es=0 then none else
        match arow es n s h with
        | some news=>match d with
          | .nilslice=>some (.int .i64 n,h)
          | .slice b off _ es' _=>match h.get b with
            | some (.arr cells false)=>if es'=es/\off+n*es<=cells.length/\news.all ze.one=true then
                some (.int .i64 n,h.set b (.arr (splice cells off news) false)) else none
            | _=>none
          | _=>none
        | none=>none
      | none=>none
    | _=>none
  | none=>none
def aconvert (T:Tab) (src dst:TypeId) (x:ze):Option ze:=
 match T.und src,T.und dst,x with
 | some _,some (.int k),.int _ n=>some (.int k (k.wrap n))
 | some _,some (.float k),.int _ n=>some (.float k (k.nearest n))
 | some _,some (.int k),.float f b=>(match (f.decode b).toInt .zero with
  | some n=>if k.min<=n/\n<=k.max then some (.int k n) else none
  | none=>none)
 | _,_,_=>none
inductive AN where
 | val (v:ze) (h:za)
 | call (f:ze) (args:List ze)
def zS (h:za) (x:Option ze):Option AN:=x.map (AN.val · h)
def zfE (x:Option (ze×za)):Option AN:=x.map λp=>AN.val p.1 p.2
def zf1 (x:Option za):Option AN:=x.map λh=>AN.val (.tuple []) h
def abuiltin (T:Tab) (b:Builtin) (argTypes:Array TypeId) (args:List ze) (h:za):Option AN:=
 match b,args with
 | .len,[x]=>match argTypes[0]? with
  | some t=>zS h (alen T t x h)
  | none=>none
 | .cap,[x]=>match argTypes[0]? with
  | some t=>zS h (acap T t x)
  | none=>none
 | .append,[s,x]=>zfE (aappend T argTypes s x h)
 | .copy,[d,s]=>zfE (acopy T argTypes d s h)
 | .max,xs=>zS h (amax xs)
 | .min,xs=>zS h (amin xs)
 | _,_=>none
def zhC (ev:Operand->ze) (h:za) (c a b:Operand):Option AN:=
 match ev c with
 | .bool t=>some (.val (bif t then ev a else ev b) h)
 | _=>none
def zfF (T:Tab) (h:za) (elem:TypeId):Option AN:=
 match zeR T elem with
 | some z=>some (.val (.ptr h.next 0) (h.push (.arr z.cells false)))
 | none=>none
def zjz (ev:Operand->ze) (h:za) (v:Operand):Option AN:=
 match ev v with
 | .undef=>none
 | x=>some (.val (.ptr h.next 0) (h.push (.arr x.cells false)))
def zcY (ev:Operand->ze) (parts:List (Nat×Operand)):List (Nat×ze):=parts.map λp=>(p.1,ev p.2)
def zdf (h:za):ze->Option AN
 | .ptr b off=>some (.val (.ptr b off) h)
 | .func (.func f) a b=>some (.val (.func (.func f) a b) h)
 | .func (.yield l) a b=>some (.val (.func (.yield l) a b) h)
 | _=>none
def zb3 (T:Tab) (h:za) (t:TypeId) (x:ze):Option AN:=
 match T.und t with
 | some (.interface _)=>none
 | some _=>some (.val (.iface t x) h)
 | none=>none
def aassert (T:Tab) (x:ze) (a:TypeId) (ok:Bool):Option ze:=
 match T.und a with
 | some (.interface _)=>none
 | some _=>match x with
  | .iface t v=>bif ok&&Nat.beq t a then some (.tuple [v,.bool true]) else none
  | _=>none
 | none=>none
theorem zn6 {T:Tab} {x:ze} {a:TypeId} {ok:Bool} {n:ze} (hl:aassert T x a ok=some n):∃ d v,T.und a=some d/\(∀ w,d≠.interface w)/\x=.iface a v/\ok=true/\n=.tuple [v,.bool true]:=by
 unfold aassert at hl;split at hl
 . cases hl
 . rename_i d hne hu;split at hl
   . rename_i t v;cases hb:ok&&Nat.beq t a with
     | false=>rw [hb] at hl; cases hl
     | true=>
      rw [hb] at hl;cases hl;rw [Bool.and_eq_true] at hb;have:=Nat.eq_of_beq_eq_true hb.2;subst this;exact ⟨d,v,hu,λw e=>hne w (e▸rfl),rfl,hb.1,rfl⟩
   . cases hl
 . cases hl
def zct (ev:Operand->ze) (h:za) (fn:Fn) (first captured:List Operand):Option AN:=
 match fn with
 | .func f=>some (.val (.func (.func f) (first.map ev) (captured.map ev)) h)
 | _=>none
def zey (T:Tab) (ev:Operand->ze) (h:za) (t:TypeId) (r:Option Operand):Option AN:=
 match T.und t,(match r with | none=>some 0 | some x=>(match ev x with | .int _ n=>some n | _=>none)) with
 | some (.map _ _),some _=>some (.val (.map h.next) (h.push (.mp [])))
 | _,_=>none
def zff (h:za) (t:ze) (i:Nat):Option AN:=
 match t with
 | .tuple vs=>zS h (vs[i]?)
 | _=>none
def zcu (T:Tab) (ev:Operand->ze) (h:za) (c:Call):Option AN:=
 match c.callee with
 | .builtin b=>abuiltin T b c.argTypes (c.args.toList.map ev) h
 | .value f=>some (.call (ev f) (c.args.toList.map ev))
 | _=>none
def aop (T:Tab) (ev:Operand->ze) (h:za) (op:Op):Option AN:=
 match op with
 | .move x=>some (.val (ev x) h)
 | .assign x=>some (.val (ev x) h)
 | .pick c a b=>zhC ev h c a b
 | .alloc elem=>zfF T h elem
 | .box _ v=>zjz ev h v
 | .build t parts=>zS h (abuild T t (zcY ev parts.toList))
 | .buildSlice t len parts=>zfE (zdG T t len (zcY ev parts.toList) h)
 | .load t a=>zS h (aload T t h (ev a))
 | .store t a x=>zf1 (astore T t h (ev a) (ev x))
 | .nilCheck x=>zdf h (ev x)
 | .binOp op t x y _=>zS h (abin T op t (ev x) (ev y))
 | .unOp op _ x=>zS h (aun op (ev x))
 | .convert src dst x=>zS h (aconvert T src dst (ev x))
 | .makeInterface t x=>zb3 T h t (ev x)
 | .typeAssert x _ a ok=>zS h (aassert T (ev x) a ok)
 | .makeFunc fn first captured=>zct ev h fn first.toList captured.toList
 | .makeMap t r=>zey T ev h t r
 | .makeSlice t l c=>zfE (zef T t (ev l) (ev c) h)
 | .slice t x lo hi mx=>zS h (aslice T t (ev x) (lo.map ev) (hi.map ev) (mx.map ev))
 | .fieldAddr s x f=>zS h (ze5 T s (ev x) f)
 | .field t x f=>zS h (afield T t (ev x) f)
 | .indexAddr t x ix=>zS h (zde T t (ev x) (ev ix))
 | .index t x ix=>zS h (aindex T t (ev x) (ev ix))
 | .lookup t x ix ok=>zS h (alookup T t (ev x) (ev ix) ok h)
 | .mapUpdate t m k x=>zf1 (zbo T t (ev m) (ev k) (ev x) h)
 | .insert t m k x=>zf1 (zbo T t (ev m) (ev k) (ev x) h)
 | .extract t i=>zff h (ev t) i
 | .call c=>zcu T ev h c
 | _=>none
def putDst (fr:zf) (dst:Option Nat) (v:ze):zf:=
 match dst with
 | some d=>Tr.set fr d v
 | none=>fr
inductive zg3 where
 | ret (v:ze)
 | pan (v:ze)
inductive zab where
 | normal
 | exit (id:Nat)
 | goto (l:Nat)
 | ret
 | pan (v:ze)
abbrev Caller:=ze->List ze->za->Option (zg3×za)
def awanted (ops:List Oper) (fr:zf) (g:Option (Nat×Bool)):Option Bool:=
 match g with
 | none=>some true
 | some (j,want)=>match (ops[j]?).bind (λ(o:Oper)=>o.dst) with
  | some d=>match fr.ev d with
   | .bool b=>some (b==want)
   | .undef=>none
   | _=>some false
  | none=>some false
def unit:ze:=.tuple []
structure Foot where
 rd:List Nat
 rall:Bool
 wr:List Nat
 wall:Bool
def zK:ze->List Nat
 | .ptr b _=>[b]
 | .slice b _ _ _ _=>[b]
 | .map r=>[r]
 | _=>[]
def zn7:ze->List Nat
 | .map r=>[r]
 | _=>[]
def foot (ev:Operand->ze) (o:Oper):Foot:=
 match o.op with
 | .load _ a=>⟨zK (ev a),false,[],false⟩
 | .store _ a _=>⟨[],false,zK (ev a),false⟩
 | .lookup _ x _ _=>⟨zK (ev x),false,[],false⟩
 | .mapUpdate _ m _ _=>⟨[],false,zK (ev m),false⟩
 | .insert _ m _ _=>⟨[],false,zK (ev m),false⟩
 | .call c=>(match c.callee with
  | .builtin .len=>⟨(c.args.toList.map ev).flatMap zn7,false,[],false⟩
  | .builtin .append=>⟨((c.args.toList.map ev).drop 1).flatMap zK,false,((c.args.toList.map ev).take 1).flatMap zK,false⟩
  | .builtin .copy=>⟨((c.args.toList.map ev).drop 1).flatMap zK,false,((c.args.toList.map ev).take 1).flatMap zK,false⟩
  | .builtin _=>⟨[],false,[],false⟩
  | _=>⟨[],true,[],false⟩)
 | _=>⟨[],false,[],false⟩
def disj (a b:List Nat):Bool:=a.all λx=>!b.contains x
def Foot.apart (a b:Foot):Bool:=
 disj a.wr b.rd&&disj a.wr b.wr&&disj a.rd b.wr &&
 (!a.wall||(b.rd.isEmpty&&b.wr.isEmpty&&!b.rall&&!b.wall))&&(!b.wall||(a.rd.isEmpty&&a.wr.isEmpty&&!a.rall&&!a.wall)) &&
 (!a.rall||(b.wr.isEmpty&&!b.wall))&&(!b.rall||(a.wr.isEmpty&&!a.wall))
def before (ops:List Oper):Nat->List Nat->List Nat->List Nat
 | 0,_,seen=>seen
 | _+1,[],seen=>seen
 | k+1,j::todo,seen=>
  let es:=match ops[j]? with
   | some o=>(o.after.toList.filter (Region.binds .any)).map (λ(e:Edge)=>e.on)
   | none=>[]
  let news:=es.filter λi=>!seen.contains i
  before ops k (news++todo) (news++seen)
def zcc (ops:List Oper) (j:Nat):List Nat:=before ops ((ops.length+1)*(ops.length+1)) [j] []
def zca (ops:List Oper) (j:Nat) (f:Foot) (done:List (Nat×Foot)):Bool:=
 if done.all (λp=>p.2.apart f) then true
 else
  let b:=zcc ops j
  done.all λp=>p.2.apart f||b.contains p.1
def apanic (ev:Operand->ze) (o:Op):Option ze:=
 match o with
 | .panic x=>match ev x with
  | .iface t v=>some (.iface t v)
  | _=>none
 | _=>none
def astep (T:Tab) (call:Caller) (ev:Operand->ze) (o:Op) (h:za):Option (zg3×za):=
 match aop T ev h o with
 | some (.val v h')=>some (.ret v,h')
 | some (.call f args)=>call f args h
 | none=>match apanic ev o with
  | some v=>some (.pan v,h)
  | none=>none
def aops (T:Tab) (call:Caller) (ops:List Oper):List Oper->zf->za->Option (zab×zf×za)
 | [],fr,h=>some (.normal,fr,h)
 | o::rest,fr,h=>
  match awanted ops fr o.guard with
  | some true=>match astep T call fr.op o.op h with
   | some (.ret v,h')=>aops T call ops rest (putDst fr o.dst v) h'
   | some (.pan v,h')=>some (.pan v,fr,h')
   | none=>none
  | some false=>aops T call ops rest (putDst fr o.dst unit) h
  | none=>none
def zfg (f:Foot) (h h':za):Foot:=
 bif f.rall then { f with wall:=!(Nat.ble h.next h'.wm) } else f
def adraw (T:Tab) (call:Caller) (ops:List Oper):List Oper->Nat->List (Nat×Foot)->zf->za->Option (zf×za)
 | [],_,_,fr,h=>some (fr,h)
 | o::rest,i,done,fr,h=>
  match awanted ops fr o.guard with
  | some true=>
   (match astep T call fr.op o.op { h with wm:=h.next } with
   | some (.ret v,h')=>
    match zfg (foot fr.op o) h h' with
    | f=>bif zca ops i f done then adraw T call ops rest (i+1) ((i,f)::done) (putDst fr o.dst v) { h' with wm:=min h.wm h'.wm } else none
   | _=>none)
  | some false=>adraw T call ops rest (i+1) done (putDst fr o.dst unit) h
  | none=>none
def aresult (T:Tab) (fr:zf) (h:za):ResultVar->Option ze
 | .tmp t=>some (fr.ev t)
 | .cell a t=>aload T t h (fr.ev a)
def aresults (T:Tab) (rs:List ResultVar) (fr:zf) (h:za):Option (List ze):=
 match rs with
 | []=>some []
 | r::rs=>match aresult T fr h r,aresults T rs fr h with
  | some v,some vs=>some (v::vs)
  | _,_=>none
def packed:List ze->ze
 | [v]=>v
 | vs=>.tuple vs
def zaz:Nat->List ze->zf->zf
 | _,[],fr=>fr
 | i,v::vs,fr=>zaz (i+1) vs (Tr.set fr i v)
def zc5:List Nat->List ze->zf->zf
 | p::ps,v::vs,fr=>zc5 ps vs (Tr.set fr p v)
 | _,_,fr=>fr
abbrev Runner:=Code->zf->za->Option (zab×zf×za)
def aseqs (run:Runner):List Code->zf->za->Option (zab×zf×za)
 | [],fr,h=>some (.normal,fr,h)
 | c::cs,fr,h=>match run c fr h with
  | some (.normal,fr',h')=>aseqs run cs fr' h'
  | r=>r
def aclose (run:Runner) (D:zbO) (x v:ze) (h:za):Option za:=
  match x with
  | .func (.func g) first captured=>bif Nat.beq g D.fn&&Nat.ble (first++captured).length D.cn then
      match run D.rest (Tr.set (Tr.set (zaz 0 (first++captured) .leaf) D.p1 v) D.p2 v) h with
      | some (.normal,_,h')=>some h'
      | _=>none
    else none
  | _=>none
def aend (T:Tab) (D:zbO) (fr:zf) (h:za):Option (zg3×za):=
 match aresults T D.results fr h with
 | some vs=>some (.ret (packed vs),h)
 | none=>none
def aback (T:Tab) (D:zbO) (fr:zf):Option za->Option (zg3×za)
 | some h=>aend T D fr h
 | none=>none
def zgk (T:Tab) (run:Runner) (D:zbO) (args:List ze) (h:za):Option (zg3×za):=
 bif Nat.blt D.ntmps args.length then none else
 match aseqs run D.pre (zaz 0 args .leaf) h with
 | some (.ret,fr,h1)=>aend T D fr h1
 | some (.normal,fr,h1)=>match aop T fr.op h1 D.mko.op with
  | some (.val x h2)=>match run D.post (Tr.set fr D.tmp x) h2 with
   | some (.ret,fr3,h3)=>aback T D fr3 (aclose run D x .niliface h3)
   | some (.pan v,fr3,h3)=>aback T D fr3 (aclose run D x v h3)
   | _=>none
  | _=>none
 | _=>none
def zdH (T:Tab) (run:Runner) (f:FuncId) (args:List ze) (h:za):Option (zg3×za):=
 match T.funcs.get f with
 | some F=>bif Nat.blt F.ntmps args.length then none else match F.body with
  | some c=>match run c (zaz 0 args .leaf) h with
   | some (.normal,fr,h')=>match aresults T F.results.toList fr h' with
    | some vs=>some (.ret (packed vs),h')
    | none=>none
   | some (.ret,fr,h')=>match aresults T F.results.toList fr h' with
    | some vs=>some (.ret (packed vs),h')
    | none=>none
   | some (.pan v,_,h')=>some (.pan v,h')
   | _=>none
  | none=>none
 | none=>match T.defs.get f with
  | some D=>zgk T run D args h
  | none=>none
def around (run:Runner) (l:Nat) (args:List ze) (h:za):Option (zg3×za):=
  match h.get l with
  | some (.loop L)=>if L.state=.ready/\args.length=L.params.length then
      match run L.assign (zc5 L.params args L.fr) h with
      | some (.normal,fr,h1)=>(match h1.get l with
        | some (.loop L1)=>if L1.state=.ready then
            match run L.body fr (h1.set l (.loop { L with state:=.busy })) with
            | some (.normal,_,h2)=>some (.ret (.bool true),h2.set l (.loop { L with state:=.ready,pending:=none }))
            | some (.ret,_,h2)=>some (.ret (.bool false),h2.set l (.loop { L with state:=.done,pending:=some .ret }))
            | some (.exit id,_,h2)=>some (.ret (.bool false),h2.set l (.loop { L with state:=.done,pending:=some (.exit id) }))
            | some (.pan v,_,h2)=>some (.pan v,h2)
            | _=>none
          else none
        | _=>none)
      | _=>none
    else none
  | _=>none
def acall (T:Tab) (run:Runner):Caller:=λf args h=>
 match f with
 | .func (.func g) first captured=>(match T.consts.get g with
  | some p=>(p (first++args++captured)).map λv=>(.ret v,h)
  | none=>zdH T run g (first++args++captured) h)
 | .func (.yield l) first _=>around run l (first++args) h
 | _=>none
def aexec (T:Tab):Nat->Runner
 | 0,_,_,_=>none
 | n+1,c,fr,h=>
  match c with
  | .skip=>some (.normal,fr,h)
  | .label _=>some (.normal,fr,h)
  | .region _ ops draw=>
   if draw then (match adraw T (acall T (aexec T n)) ops.toList ops.toList 0 [] fr h with
    | some (fr',h')=>some (.normal,fr',h')
    | none=>none)
   else aops T (acall T (aexec T n)) ops.toList ops.toList fr h
  | .seq a b=>match aexec T n a fr h with
   | some (.normal,fr',h')=>aexec T n b fr' h'
   | r=>r
  | .cond c a b=>match fr.op c with
   | .bool t=>aexec T n (if t then a else b) fr h
   | _=>none
  | .block id c=>match aexec T n c fr h with
   | some (.exit id',fr',h')=>if id'=id then some (.normal,fr',h') else some (.exit id',fr',h')
   | r=>r
  | .loop c=>match aexec T n c fr h with
   | some (.normal,fr',h')=>aexec T n (.loop c) fr' h'
   | r=>r
  | .rangeFunc f params assign body=>
   match acall T (aexec T n) (fr.op f) [.func (.yield h.next) [] []] (h.push (.loop { state:=.ready,pending:=none,fr,params:=params.toList,assign,body })) with
   | some (.ret _,h2)=>match h2.get h.next with
    | some (.loop L)=>if L.state=.busy then none else
     match L.pending with
     | none=>some (.normal,fr,h2.set h.next (.loop { L with state:=.exhausted }))
     | some .ret=>some (.ret,fr,h2.set h.next (.loop { L with state:=.exhausted }))
     | some (.exit id)=>some (.exit id,fr,h2.set h.next (.loop { L with state:=.exhausted }))
     | _=>none
    | _=>none
   | some (.pan v,h2)=>some (.pan v,fr,h2)
   | none=>none
  | .exit id=>some (.exit id,fr,h)
  | .scope c=>(match aexec T n c fr h with
   | some (.goto _,_,_)=>none
   | r=>r)
  | .goto l=>some (.goto l,fr,h)
  | .ret=>some (.ret,fr,h)
  | .refuse _=>none
end Go.Ai
/- An abstract interpreter for the model's code: how its values,frames and heaps stand for the model's. -/
namespace Go.Ai
theorem zlA (a:Nat):Nat.beq (Nat.mod a 2) 0=decide (a%2=0):=by
 show Nat.beq (a%2) 0=_;cases h:a%2 with
 | zero=>rfl
 | succ n=>simp [Nat.beq]
theorem Tr.get_succ {α:Type} (v:Option α) (l r:Tr α) (m:Nat):(Tr.node v l r).get (m+1)=if m%2=0 then l.get (m/2) else r.get (m/2):=by
 show (bif Nat.beq (Nat.mod m 2) 0 then l.get (Nat.div m 2) else r.get (Nat.div m 2))=_;rw [zlA];by_cases h:m%2=0<;>simp [h]<;>rfl
theorem Tr.put_leaf {α:Type} (k n:Nat) (x:α):Tr.put (k+1) .leaf (n+1) x=if n%2=0 then .node none (Tr.put k .leaf (n/2) x) .leaf else .node none .leaf (Tr.put k .leaf (n/2) x):=by
 show (bif Nat.beq (Nat.mod n 2) 0 then Tr.node none (Tr.put k .leaf (Nat.div n 2) x) .leaf else .node none .leaf (Tr.put k .leaf (Nat.div n 2) x))=_;rw [zlA];by_cases h:n%2=0<;>simp [h]<;>rfl
theorem Tr.put_node {α:Type} (k:Nat) (v:Option α) (l r:Tr α) (n:Nat) (x:α):Tr.put (k+1) (.node v l r) (n+1) x=if n%2=0 then .node v (Tr.put k l (n/2) x) r else .node v l (Tr.put k r (n/2) x):=by
 show (bif Nat.beq (Nat.mod n 2) 0 then Tr.node v (Tr.put k l (Nat.div n 2) x) r else .node v l (Tr.put k r (Nat.div n 2) x))=_;rw [zlA];by_cases h:n%2=0<;>simp [h]<;>rfl
theorem Tr.get_put {α:Type}:∀ (k:Nat) (t:Tr α) (n:Nat) (x:α) (m:Nat),n<k->(Tr.put k t n x).get m=if m=n then some x else t.get m
 | 0,_,n,_,_,h=>absurd h (Nat.not_lt_zero n)
 | k+1,.leaf,0,x,m,_=>by cases m<;>simp [Tr.put,Tr.get]
 | k+1,.leaf,n+1,x,m,h=>by
  have ih:=λm'=>Tr.get_put k .leaf (n/2) x m' (by omega);rw [Tr.put_leaf];cases m with
  | zero=>split<;>simp [Tr.get]
  | succ m=>
   by_cases e:m=n
   ·subst e;split<;>rw [Tr.get_succ]<;>simp_all
   ·rw [if_neg (show ¬ (m+1=n+1) by omega)];split<;>rw [Tr.get_succ]<;>split<;>simp_all [Tr.get]<;>omega
 | k+1,.node v l r,0,x,m,_=>by cases m<;>simp [Tr.put,Tr.get]
 | k+1,.node v l r,n+1,x,m,h=>by
  have hlt:n/2<k:=by omega
  have ihl:=λm'=>Tr.get_put k l (n/2) x m' hlt;have ihr:=λm'=>Tr.get_put k r (n/2) x m' hlt;rw [Tr.put_node];cases m with
  | zero=>split<;>simp [Tr.get]
  | succ m=>
   by_cases e:m=n
   ·subst e;split<;>rw [Tr.get_succ]<;>simp_all
   ·rw [if_neg (show ¬ (m+1=n+1) by omega)];split<;>rw [Tr.get_succ,Tr.get_succ]<;>split<;>simp_all<;>omega
theorem Tr.get_set {α:Type} (t:Tr α) (n:Nat) (x:α) (m:Nat):(t.set n x).get m=if m=n then some x else t.get m:=
 Tr.get_put (n+1) t n x m (Nat.lt_succ_self n)
theorem zf.ev_set (fr:zf) (n:Nat) (x:ze) (m:Nat):zf.ev (Tr.set fr n x) m=if m=n then x else fr.ev m:=by
 unfold zf.ev;rw [Tr.get_set];split<;>rfl
theorem za.get_set (h:za) (b:Nat) (x:zfy) (b':Nat):(h.set b x).get b'=if b'=b then some x else h.get b':=Tr.get_set _ _ _ _
theorem za.get_push (h:za) (x:zfy) (b':Nat):(h.push x).get b'=if b'=h.next then some x else h.get b':=Tr.get_set _ _ _ _
theorem za.next_set (h:za) (b:Nat) (x:zfy):(h.set b x).next=h.next:=rfl
theorem za.next_push (h:za) (x:zfy):(h.push x).next=h.next+1:=rfl
structure Loc where
 c:Nat
 o:Nat
 n:Nat
abbrev Emb:=Nat->Option Loc
def Ext (ρ ρ':Emb):Prop:=∀ b l,ρ b=some l->ρ' b=some l
theorem Ext.refl (ρ:Emb):Ext ρ ρ:=λ_ _ h=>h
theorem Ext.trans {ρ ρ' ρ'':Emb} (h:Ext ρ ρ') (h':Ext ρ' ρ''):Ext ρ ρ'':=λb l e=>h' b l (h b l e)
def zmG (ρ:Emb) (f f':Fn):Prop:=
 (∃ l l':Nat,f=.yield l/\f'=.yield l'/\∃ loc,ρ l=some loc/\loc.c=l')\/(∃ g,f=.func g/\f'=.func g)
inductive zaa (ρ:Emb):ze->Value->Prop where
 | undef (v:Value):zaa ρ .undef v
 | bool (b:Bool):zaa ρ (.bool b) (.bool b)
 | int (k:IntKind) (n:Int):zaa ρ (.int k n) (.int k n)
 | float (k:FloatKind) (b:Nat):zaa ρ (.float k b) (.float k b)
 | str (s:ByteArray):zaa ρ (.str s) (.string s)
 | ptr (b off:Nat) (l:Loc) (h:ρ b=some l):zaa ρ (.ptr b off) (.pointer (some ⟨l.c,l.o+off,none⟩))
 | nilptr:zaa ρ .nilptr (.pointer none)
 | slice (b off len es:Nat) (cap:Option Nat) (l:Loc) (a:Addr) (ccap:Nat) (h:ρ b=some l) (hlen:len<=ccap) (hcap:∀ k,cap=some k->ccap=k)
  (hoff:ccap=0\/(a=⟨l.c,l.o+off,none⟩/\l.o+off+ccap*es<=l.n)):zaa ρ (.slice b off len es cap) (.slice (some a) len ccap)
 | nilslice:zaa ρ .nilslice (.slice none 0 0)
 | map (r:Nat) (l:Loc) (h:ρ r=some l):zaa ρ (.map r) (.map (some l.c))
 | nilmap:zaa ρ .nilmap (.map none)
 | func (fn fn':Fn) (f c:List ze) (f' c':Array Value) (hfn:zmG ρ fn fn') (hf:f.length=f'.size) (hc:c.length=c'.size)
  (hfs:∀ (i:Nat) (v:ze) (v':Value),f[i]?=some v->f'[i]?=some v'->zaa ρ v v') (hcs:∀ (i:Nat) (v:ze) (v':Value),c[i]?=some v->c'[i]?=some v'->zaa ρ v v') :
  zaa ρ (.func fn f c) (.func fn' f' c')
 | nilfunc:zaa ρ .nilfunc .nilFunc
 | iface (t:TypeId) (v:ze) (v':Value) (h:zaa ρ v v'):zaa ρ (.iface t v) (.iface t v')
 | niliface:zaa ρ .niliface .nilIface
 | agg (cs:List ze) (cs':Array Value) (hl:cs.length=cs'.size) (hs:∀ (i:Nat) (v:ze) (v':Value),cs[i]?=some v->cs'[i]?=some v'->zaa ρ v v'):zaa ρ (.agg cs) (.agg cs')
 | tuple (cs:List ze) (cs':Array Value) (hl:cs.length=cs'.size) (hs:∀ (i:Nat) (v:ze) (v':Value),cs[i]?=some v->cs'[i]?=some v'->zaa ρ v v'):zaa ρ (.tuple cs) (.tuple cs')
theorem zmG.mono {ρ ρ':Emb} {f f':Fn} (h:zmG ρ f f') (e:Ext ρ ρ'):zmG ρ' f f':=by
 rcases h with ⟨l,l',rfl,rfl,loc,hl,hc⟩ | ⟨g,rfl,rfl⟩
 . exact .inl ⟨l,l',rfl,rfl,loc,e _ _ hl,hc⟩
 . exact .inr ⟨g,rfl,rfl⟩
theorem zaa.mono {ρ ρ':Emb} {v:ze} {v':Value} (h:zaa ρ v v') (e:Ext ρ ρ'):zaa ρ' v v':=by
 induction h with
 | undef v=>exact .undef v
 | bool b=>exact .bool b
 | int k n=>exact .int k n
 | float k b=>exact .float k b
 | str s=>exact .str s
 | ptr b off l h=>exact .ptr b off l (e _ _ h)
 | nilptr=>exact .nilptr
 | slice b off len es cap l a ccap h hlen hcap hoff=>exact .slice b off len es cap l a ccap (e _ _ h) hlen hcap hoff
 | nilslice=>exact .nilslice
 | map r l h=>exact .map r l (e _ _ h)
 | nilmap=>exact .nilmap
 | func fn fn' f c f' c' hfn hf hc _ _ ihf ihc=>exact .func fn fn' f c f' c' (hfn.mono e) hf hc ihf ihc
 | nilfunc=>exact .nilfunc
 | iface t v v' _ ih=>exact .iface t v v' ih
 | niliface=>exact .niliface
 | agg cs cs' hl _ ih=>exact .agg cs cs' hl ih
 | tuple cs cs' hl _ ih=>exact .tuple cs cs' hl ih
def zcd (ρ:Emb) (vs:List ze) (vs':List Value):Prop:=
 vs.length=vs'.length/\∀ (i:Nat) (v:ze) (v':Value),vs[i]?=some v->vs'[i]?=some v'->zaa ρ v v'
theorem zcd.nil (ρ:Emb):zcd ρ [] []:=⟨rfl,by simp⟩
theorem zcd.cons {ρ:Emb} {v:ze} {v':Value} {vs:List ze} {vs':List Value} (h:zaa ρ v v') (hs:zcd ρ vs vs'):zcd ρ (v::vs) (v'::vs'):=by
 refine ⟨by simp [hs.1],λi u u' hu hu'=>?_⟩;cases i with
 | zero=>simp at hu hu'; subst hu hu'; exact h
 | succ i=>simp at hu hu'; exact hs.2 i u u' hu hu'
theorem zcd.head {ρ:Emb} {v:ze} {v':Value} {vs:List ze} {vs':List Value} (h:zcd ρ (v::vs) (v'::vs')):zaa ρ v v':=h.2 0 v v' rfl rfl
theorem zcd.tail {ρ:Emb} {v:ze} {v':Value} {vs:List ze} {vs':List Value} (h:zcd ρ (v::vs) (v'::vs')):zcd ρ vs vs':=
 ⟨by simpa using h.1,λi u u' hu hu'=>h.2 (i+1) u u' (by simpa using hu) (by simpa using hu')⟩
theorem zcd.cons_inv {ρ:Emb} {v:ze} {vs:List ze} {us':List Value} (h:zcd ρ (v::vs) us'):∃ v' vs',us'=v'::vs'/\zaa ρ v v'/\zcd ρ vs vs':=by
 cases us' with
 | nil=>have:=h.1; simp at this
 | cons v' vs'=>exact ⟨v',vs',rfl,h.head,h.tail⟩
theorem zcd.nil_inv {ρ:Emb} {us':List Value} (h:zcd ρ [] us'):us'=[]:=by
 have:=h.1; simp at this; exact List.eq_nil_of_length_eq_zero this.symm
theorem zcd.mono {ρ ρ':Emb} {vs:List ze} {vs':List Value} (h:zcd ρ vs vs') (e:Ext ρ ρ'):zcd ρ' vs vs':=
 ⟨h.1,λi v v' hv hv'=>(h.2 i v v' hv hv').mono e⟩
theorem zcd.append {ρ:Emb} {vs us:List ze} {vs' us':List Value} (h:zcd ρ vs vs') (h':zcd ρ us us'):zcd ρ (vs++us) (vs'++us'):=by
 refine ⟨by simp [h.1,h'.1],λi v v' hv hv'=>?_⟩;rw [List.getElem?_append] at hv hv';rw [h.1] at hv;split at hv
 . rename_i hlt;rw [if_pos hlt] at hv';exact h.2 _ _ _ hv hv'
 . rename_i hlt;rw [if_neg hlt] at hv';exact h'.2 _ _ _ hv hv'
theorem zcd.take {ρ:Emb} {vs:List ze} {vs':List Value} (h:zcd ρ vs vs') (n:Nat):zcd ρ (vs.take n) (vs'.take n):=by
 refine ⟨by simp [h.1],λi v v' hv hv'=>?_⟩;rw [List.getElem?_take] at hv hv';split at hv
 . rename_i hlt; rw [if_pos hlt] at hv'; exact h.2 _ _ _ hv hv'
 . cases hv
theorem zcd.drop {ρ:Emb} {vs:List ze} {vs':List Value} (h:zcd ρ vs vs') (n:Nat):zcd ρ (vs.drop n) (vs'.drop n):=by
 refine ⟨by simp [h.1],λi v v' hv hv'=>?_⟩;rw [List.getElem?_drop] at hv hv';exact h.2 _ _ _ hv hv'
theorem zcd.at {ρ:Emb} {vs:List ze} {vs':List Value} (h:zcd ρ vs vs') {i:Nat} {v:ze} (hv:vs[i]?=some v):∃ v',vs'[i]?=some v'/\zaa ρ v v':=by
 have hi:i<vs'.length:=by rw [← h.1]; exact (List.getElem?_eq_some_iff.1 hv).1
 exact ⟨vs'[i],List.getElem?_eq_getElem hi,h.2 i v _ hv (List.getElem?_eq_getElem hi)⟩
theorem zaa.agg' {ρ:Emb} {cs:List ze} {cs':List Value} (h:zcd ρ cs cs'):zaa ρ (.agg cs) (.agg cs'.toArray):=
 .agg cs cs'.toArray (by simp [h.1]) λi v v' hv hv'=>h.2 i v v' hv (by simpa using hv')
theorem zaa.tuple' {ρ:Emb} {cs:List ze} {cs':List Value} (h:zcd ρ cs cs'):zaa ρ (.tuple cs) (.tuple cs'.toArray):=
 .tuple cs cs'.toArray (by simp [h.1]) λi v v' hv hv'=>h.2 i v v' hv (by simpa using hv')
theorem zaa.agg_inv {ρ:Emb} {cs:List ze} {x:Value} (h:zaa ρ (.agg cs) x):∃ cs',x=.agg cs'/\zcd ρ cs cs'.toList:=by
 cases h with
 | agg _ cs' hl hs=>exact ⟨cs',rfl,by simpa using hl,λi v v' hv hv'=>hs i v v' hv (by simpa using hv')⟩
theorem zaa.tuple_inv {ρ:Emb} {cs:List ze} {x:Value} (h:zaa ρ (.tuple cs) x):∃ cs',x=.tuple cs'/\zcd ρ cs cs'.toList:=by
 cases h with
 | tuple _ cs' hl hs=>exact ⟨cs',rfl,by simpa using hl,λi v v' hv hv'=>hs i v v' hv (by simpa using hv')⟩
theorem zaa.cells {ρ:Emb} {v:ze} {v':Value} (h:zaa ρ v v') (hu:v≠.undef):zcd ρ v.cells v'.cells.toList:=by
 cases h with
 | undef=>exact absurd rfl hu
 | agg cs cs' hl hs=>exact ⟨by simpa [ze.cells,Value.cells] using hl,λi v v' hv hv'=>hs i v v' hv (by simpa [Value.cells] using hv')⟩
 | slice b off len es cap l a ccap h hlen hcap hoff=>exact .cons (.slice b off len es cap l a ccap h hlen hcap hoff) (.nil _)
 | func fn fn' f c f' c' hfn hf hc hfs hcs=>exact .cons (.func fn fn' f c f' c' hfn hf hc hfs hcs) (.nil _)
 | tuple cs cs' hl hs=>exact .cons (.tuple cs cs' hl hs) (.nil _)
 | bool b=>exact .cons (.bool b) (.nil _)
 | int k n=>exact .cons (.int k n) (.nil _)
 | float k b=>exact .cons (.float k b) (.nil _)
 | str s=>exact .cons (.str s) (.nil _)
 | ptr b off l h=>exact .cons (.ptr b off l h) (.nil _)
 | nilptr=>exact .cons .nilptr (.nil _)
 | nilslice=>exact .cons .nilslice (.nil _)
 | map r l h=>exact .cons (.map r l h) (.nil _)
 | nilmap=>exact .cons .nilmap (.nil _)
 | nilfunc=>exact .cons .nilfunc (.nil _)
 | iface t v v' h=>exact .cons (.iface t v v' h) (.nil _)
 | niliface=>exact .cons .niliface (.nil _)
theorem zaa.one {ρ:Emb} {v:ze} {v':Value} (h:zaa ρ v v') (hu:v.one=true):(match v' with | .agg _ | .tuple _=>false | _=>true)=true:=by
 cases h<;>first | rfl | (simp [ze.one] at hu)
theorem zkT (ρ:Emb) (v:Value) (x:ze) (h:zkS v=some x):zaa ρ x v:=by
 unfold zkS at h;split at h
 . cases h; exact .bool _
 . cases h; exact .int _ _
 . cases h; exact .float _ _
 . cases h; exact .str _
 . cases h; exact .nilptr
 . split at h
   . rename_i hlc; cases h; obtain ⟨rfl,rfl⟩:=hlc; exact .nilslice
   . cases h
 . cases h; exact .nilmap
 . cases h; exact .nilfunc
 . cases h; exact .niliface
 . split at h
   . rename_i f fi ca hlc;cases h;exact .func _ _ [] [] fi ca (.inr ⟨f,rfl,rfl⟩) (by simp [hlc.1]) (by simp [hlc.2]) (by simp) (by simp)
   . cases h
 . cases h
theorem zjA (ρ:Emb):∀ (vs:List Value) (xs:List ze),zgr vs=some xs->zcd ρ xs vs
 | [],xs,h=>by simp [zgr] at h; subst h; exact .nil _
 | v::vs,xs,h=>by
  simp only [zgr] at h;split at h
  . rename_i x xs' hx hxs;cases h;exact .cons (zkT ρ v x hx) (zjA ρ vs xs' hxs)
  . cases h
theorem zez (ρ:Emb) (v:Value) (x:ze) (h:zhe v=some x):zaa ρ x v:=by
 unfold zhe at h;split at h
 . rename_i cs;cases hc:zgr cs.toList with
   | none=>rw [hc] at h; cases h
   | some xs=>
    rw [hc] at h;cases h;exact .agg' (cs':=cs.toList) (zjA ρ _ _ hc)
 . exact zkT ρ v x h
def zia (ρ:Emb) (fr:zf) (tmps:Array Value):Prop:=∀ t,zaa ρ (fr.ev t) (tmps.getD t undef)
theorem zia.mono {ρ ρ':Emb} {fr:zf} {tmps:Array Value} (h:zia ρ fr tmps) (e:Ext ρ ρ'):zia ρ' fr tmps:=λt=>(h t).mono e
theorem zia.put {ρ:Emb} {fr:zf} {tmps:Array Value} {d:Nat} {v:ze} {v':Value} (h:zia ρ fr tmps) (hd:d<tmps.size) (hv:zaa ρ v v') :
 zia ρ (Tr.set fr d v) (tmps.setIfInBounds d v'):=by
 intro t;rw [zf.ev_set];by_cases ht:t=d
 . subst ht;simp [Array.getD,hd];exact hv
 . rw [if_neg ht];have:=h t;rw [show (tmps.setIfInBounds d v').getD t undef=tmps.getD t undef from by
    simp [Array.getD_eq_getD_getElem?,Array.getElem?_setIfInBounds,show ¬ d=t from λe=>ht e.symm]]
   exact this
def Owns (h:za) (b:Nat):Prop:=
 match h.get b with
 | some (.arr _ false)=>True
 | some (.mp _)=>True
 | some (.loop _)=>True
 | _=>False
def Alive (h:za) (b:Nat):Prop:=
 match h.get b with
 | some .dead=>False
 | some _=>True
 | none=>False
def zv9 (n:Nat) (o:Oper):Bool:=match o.dst with | some d=>d<n | none=>true
def zhg:List Oper->Nat->Bool
 | [],_=>true
 | o::os,i=>o.after.all (λe=>!Region.binds .any e||e.on<i)&&zhg os (i+1)
def zqZ:Operand->List Nat
 | .tmp t=>[t]
 | _=>[]
def looks (ops:List Oper) (o:Oper):List Nat:=
 o.op.operands.toList.flatMap zqZ++(match o.guard with | some (j,_)=>(match (ops[j]?).bind (λ(o:Oper)=>o.dst) with | some d=>[d] | none=>[]) | none=>[])
def ze6 (ops:List Oper) (a b:Oper):Bool:=
 (match a.dst with | some d=>!(looks ops b).contains d&&(match b.dst with | some d'=>!(d==d') | none=>true) | none=>true) &&
 (match b.dst with | some d=>!(looks ops a).contains d | none=>true)
def zie (ops:List Oper):List Oper->Nat->Bool
 | [],_=>true
 | o::os,i=>(if (List.range i).all (λk=>match ops[k]? with | some a=>ze6 ops a o | none=>true) then true else
  let b:=zcc ops i
  (List.range i).all (λk=>match ops[k]? with | some a=>ze6 ops a o||b.contains k | none=>true))&&zie ops os (i+1)
def zdD:Op->Bool
 | .defer _ | .go _ | .select _ _ | .send _ _ | .recv _ _ _=>false
 | _=>true
def zce (n:Nat):Code->Bool
 | .region _ ops draw=>ops.toList.all (λo=>zv9 n o&&zdD o.op)&&(!draw||(zhg ops.toList 0&&zie ops.toList ops.toList 0))
 | .seq a b=>zce n a&&zce n b
 | .cond _ a b=>zce n a&&zce n b
 | .block _ c=>zce n c
 | .loop c=>zce n c
 | .rangeFunc _ params assign body=>params.toList.all (λp=>p<n)&&zce n assign&&zce n body
 | .scope c=>zce n c
 | _=>true
structure zf2 (ρ:Emb) (L:zhA) (L':Loop):Prop where
 state:L'.state=L.state
 pending:L.state≠.busy->L'.pending=L.pending
 params:L'.params.toList=L.params
 assign:L'.assign=L.assign
 body:L'.body=L.body
 frame:zia ρ L.fr L'.tmps
 okP:∀ p∈L.params,p<L'.tmps.size
 okA:zce L'.tmps.size L.assign=true
 okB:zce L'.tmps.size L.body=true
def zn8 (base:Nat) (ρ:Emb) (x:Option zfy) (l:Loc) (w:World):Prop:=
 match x with
 | some (.arr cells ro)=>∃ cc el fz,w.heap[l.c]?=some (.cells cc el fz)/\cc.size=l.n/\l.o+cells.length<=l.n /\
  (∀ (i:Nat) (v:ze),cells[i]?=some v->∃ v',cc[l.o+i]?=some v'/\zaa ρ v v')/\(ro=false->fz=(0,0)/\base<=l.c)
 | some (.mp es)=>base<=l.c/\∃ (ces:Array MapEntry) (clk:Nat),w.heap[l.c]?=some (.map ces clk)/\ces.size=es.length /\
  ∀ (i:Nat) (k v:ze),es[i]?=some (k,v)->∃ e:MapEntry,ces[i]?=some e/\zaa ρ k e.key/\zaa ρ v e.val
 | some (.loop L)=>base<=l.c/\∃ L',w.heap[l.c]?=some (.loop L')/\zf2 ρ L L'
 | some .dead=>True
 | none=>False
structure H0 (base:Nat) (ρ:Emb) (h:za) (w:World):Prop where
 clt:∀ b l,ρ b=some l->l.c<w.heap.size
 blk:∀ b l,ρ b=some l->zn8 base ρ (h.get b) l w
 inj:∀ b b' l l',ρ b=some l->ρ b'=some l'->b≠b'->Owns h b->Alive h b'->l.c≠l'.c
 base:base<=w.heap.size
structure zeb (base:Nat) (ρ:Emb) (h:za) (w:World):Prop extends H0 base ρ h w where
 lt:∀ b l,ρ b=some l->b<h.next
theorem Owns.alive {h:za} {b:Nat} (ho:Owns h b):Alive h b:=by
 unfold Owns at ho; unfold Alive;cases hg:h.get b with
 | none=>rw [hg] at ho; exact ho.elim
 | some x=>rw [hg] at ho; cases x<;>first | trivial | exact ho.elim
structure zjB (L L':zhA):Prop where
 fr:L'.fr=L.fr
 params:L'.params=L.params
 assign:L'.assign=L.assign
 body:L'.body=L.body
theorem zjB.refl (L:zhA):zjB L L:=⟨rfl,rfl,rfl,rfl⟩
theorem zjB.trans {a b c:zhA} (h:zjB a b) (h':zjB b c):zjB a c:=⟨h'.fr.trans h.fr,h'.params.trans h.params,h'.assign.trans h.assign,h'.body.trans h.body⟩
structure Trans (ρ:Emb) (h:za) (w:World) (ρ':Emb) (h':za) (w':World):Prop where
 ext:Ext ρ ρ'
 size:w.heap.size<=w'.heap.size
 frame:∀ k,k<w.heap.size->(∀ b l,ρ b=some l->Owns h b->l.c≠k)->w'.heap[k]?=w.heap[k]?
 own:∀ b l,ρ' b=some l->Alive h' b->(ρ b=some l/\Alive h b/\(Owns h' b->Owns h b))\/w.heap.size<=l.c\/∃ b0 l0,ρ b0=some l0/\Owns h b0/\l0.c=l.c
 os:w'.os=w.os
 tape:w'.tape=w.tape
 output:w'.output=w.output
 loops:∀ b l L,ρ b=some l->h.get b=some (.loop L)->∃ L',h'.get b=some (.loop L')/\zjB L L'
 next:h.next<=h'.next
 dom:∀ b l,ρ' b=some l->ρ b=some l\/(h.next<=b/\b<h'.next)
 junk:∀ b,b<h.next->ρ b=none->h'.get b=h.get b
theorem Trans.same {ρ:Emb} {h:za} {w w':World} (size:w.heap.size<=w'.heap.size) (frame:∀ k,k<w.heap.size->(∀ b l,ρ b=some l->Owns h b->l.c≠k)->w'.heap[k]?=w.heap[k]?)
 (os:w'.os=w.os) (tape:w'.tape=w.tape) (output:w'.output=w.output):Trans ρ h w ρ h w':=
 ⟨.refl ρ,size,frame,λ_ _ hb ha=>.inl ⟨hb,ha,id⟩,os,tape,output,λ_ _ L _ h=>⟨L,h,.refl L⟩,Nat.le_refl _,λ_ _ hb=>.inl hb,λ_ _ _=>rfl⟩
theorem Trans.refl (ρ:Emb) (h:za) (w:World):Trans ρ h w ρ h w:=.same (Nat.le_refl _) (λ_ _ _=>rfl) rfl rfl rfl
theorem Trans.trans {ρ ρ₁ ρ₂:Emb} {h h₁ h₂:za} {w w₁ w₂:World} (a:Trans ρ h w ρ₁ h₁ w₁) (b:Trans ρ₁ h₁ w₁ ρ₂ h₂ w₂):Trans ρ h w ρ₂ h₂ w₂:=by
 refine ⟨a.ext.trans b.ext,Nat.le_trans a.size b.size,λk hk hb=>?_,λb' l hb' ho=>?_,b.os.trans a.os,b.tape.trans a.tape,b.output.trans a.output,
  λb' l L hb hg=>let ⟨L1,h1,s1⟩:=a.loops b' l L hb hg; let ⟨L2,h2,s2⟩:=b.loops b' l L1 (a.ext _ _ hb) h1; ⟨L2,h2,s1.trans s2⟩,Nat.le_trans a.next b.next,λb' l hb'=>?_,λb' hb' hn=>?_⟩
 . rw [b.frame k (Nat.lt_of_lt_of_le hk a.size) ?_,a.frame k hk hb];intro b1 l1 hb1 ho1 e;rcases a.own b1 l1 hb1 ho1.alive with ⟨h0,_,h2⟩ | h1 | ⟨b0,l0,h0,ho0,e0⟩
   . exact hb b1 l1 h0 (h2 ho1) e
   . omega
   . exact hb b0 l0 h0 ho0 (e0.trans e)
 . rcases b.own b' l hb' ho with ⟨h1,h2,h3⟩ | h1 | ⟨b1,l1,h1,ho1,e1⟩
   . rcases a.own b' l h1 h2 with ⟨g1,g2,g3⟩ | g1 | g1
     . exact .inl ⟨g1,g2,λq=>g3 (h3 q)⟩
     . exact .inr (.inl g1)
     . exact .inr (.inr g1)
   . exact .inr (.inl (Nat.le_trans a.size h1))
   . rcases a.own b1 l1 h1 ho1.alive with ⟨g1,g2,g3⟩ | h2 | ⟨b0,l0,h0,ho0,e0⟩
     . exact .inr (.inr ⟨b1,l1,g1,g3 ho1,e1⟩)
     . exact .inr (.inl (by rw [← e1]; exact h2))
     . exact .inr (.inr ⟨b0,l0,h0,ho0,e0.trans e1⟩)
 . rcases b.dom b' l hb' with h1 | ⟨h1,h2⟩
   . rcases a.dom b' l h1 with g1 | ⟨g1,g2⟩
     . exact .inl g1
     . exact .inr ⟨g1,Nat.lt_of_lt_of_le g2 b.next⟩
   . exact .inr ⟨Nat.le_trans a.next h1,h2⟩
 . have h1:ρ₁ b'=none:=by
    cases hx:ρ₁ b' with
    | none=>rfl
    | some l=>
     rcases a.dom b' l hx with g | ⟨g,_⟩
     . rw [hn] at g; cases g
     . omega
   rw [b.junk b' (Nat.lt_of_lt_of_le hb' a.next) h1,a.junk b' hb' hn]
theorem Trans.lt {ρ ρ':Emb} {h h':za} {w w':World} (t:Trans ρ h w ρ' h' w') (hl:∀ b l,ρ b=some l->b<h.next):∀ b l,ρ' b=some l->b<h'.next:=by
 intro b l hb;rcases t.dom b l hb with h1 | ⟨_,h2⟩
 . exact Nat.lt_of_lt_of_le (hl b l h1) t.next
 . exact h2
theorem H0.toH {base:Nat} {ρ ρ':Emb} {h h':za} {w w':World} (h0:H0 base ρ' h' w') (t:Trans ρ h w ρ' h' w') (hr:zeb base ρ h w):zeb base ρ' h' w':=⟨h0,t.lt hr.lt⟩
theorem zeb.none_next {base:Nat} {ρ:Emb} {h:za} {w:World} (hr:zeb base ρ h w):ρ h.next=none:=by
 cases e:ρ h.next with
 | none=>rfl
 | some l=>exact absurd (hr.lt _ _ e) (Nat.lt_irrefl _)
structure zq0 (P:Program) (f:FuncId) (D:zbO):Prop where
 fn : ∃ F, P.funcs[f]? = some F ∧ (F.name == "runtime.NumGoroutine") = false ∧ F.ntmps = D.ntmps ∧ F.results.toList = D.results ∧ F.body = some (D.pre.foldr Code.seq (.seq (.region D.id #[D.mko, D.dfr] false) D.post))
 pre:D.pre.all (zce D.ntmps)=true
 post:zce D.ntmps D.post=true
 mko:D.mko.dst=some D.tmp∧D.tmp<D.ntmps∧D.mko.guard=none∧zdD D.mko.op=true
 dfr:D.dfr.dst=none∧D.dfr.guard=none∧∃ c,D.dfr.op=.defer c∧c.callee=.value (.tmp D.tmp)∧c.args=#[]
 clo : ∃ G, P.funcs[D.fn]? = some G ∧ (G.name == "runtime.NumGoroutine") = false ∧ G.ntmps = D.cn ∧ G.results = #[] ∧ G.body = some (.seq (.region D.cid #[D.rop, D.mop] false) D.rest)
 rop:D.rop.dst=some D.p1∧D.p1<D.cn∧D.rop.guard=none∧∃ c,D.rop.op=.call c∧c.callee=.builtin .recover∧c.args=#[]
 mop:D.mop.dst=some D.p2∧D.p2<D.cn∧D.mop.guard=none∧D.mop.op=.assign (.tmp D.p1)
 rest:zce D.cn D.rest=true
structure Tab.Ok (T:Tab) (P:Program):Prop where
 types:∀ t i,T.types.get t=some i->P.underlying t=some i.desc∧∃ j,P.info? t=some j∧j.size=i.size∧j.bytes=i.bytes ∧
  (∀ z,i.zero=some z->∃ zv,j.zero=some zv∧zhe zv=some z)∧(i.stood=false->P.stoodInHeld t=false)∧(i.eqg=false->P.eqGuardType P.depth t=false)
 funcs : ∀ f F, T.funcs.get f = some F → P.funcs[f]? = some F ∧ (F.name == "runtime.NumGoroutine") = false ∧ (∀ c, F.body = some c → zce F.ntmps c = true)
 mixed:P.follows .mixedOrders=true
 consts : ∀ g p, T.consts.get g = some p → (∃ F, P.funcs[g]? = some F ∧ (F.name == "runtime.NumGoroutine") = false ∧ F.body.isSome = true) ∧ ∀ xs v, p xs = some v → ∀ ρ (xs' : Array Value) w, zcd ρ xs xs'.toList → Calls P g xs' w fun e w'=>
  ∃ v',e=.returned v'∧zaa ρ v v'∧w.heap.size≤w'.heap.size∧(∀ k,k<w.heap.size->w'.heap[k]?=w.heap[k]?)∧w'.os=w.os∧w'.tape=w.tape∧w'.output=w.output
 defs:∀ f D,T.defs.get f=some D->zq0 P f D
end Go.Ai
/- An abstract interpreter for the model's code: the steps of the two heaps side by side. -/
namespace Go.Ai
def Emb.add (ρ:Emb) (b:Nat) (l:Loc):Emb:=λx=>if x=b then some l else ρ x
theorem Emb.add_same (ρ:Emb) (b:Nat) (l:Loc):(ρ.add b l) b=some l:=by simp [Emb.add]
theorem Emb.add_ne (ρ:Emb) (b:Nat) (l:Loc) {x:Nat} (h:x≠b):(ρ.add b l) x=ρ x:=by simp [Emb.add,h]
theorem Ext.add {ρ:Emb} {b:Nat} {l:Loc} (h:ρ b=none):Ext ρ (ρ.add b l):=by
 intro x lx hx;by_cases e:x=b
 . subst e; rw [h] at hx; cases hx
 . rw [Emb.add_ne _ _ _ e]; exact hx
theorem zf2.mono {ρ ρ':Emb} {L:zhA} {L':Loop} (h:zf2 ρ L L') (e:Ext ρ ρ'):zf2 ρ' L L':=
 ⟨h.state,h.pending,h.params,h.assign,h.body,h.frame.mono e,h.okP,h.okA,h.okB⟩
theorem zn8.mono {base:Nat} {ρ ρ':Emb} {x:Option zfy} {l:Loc} {w w':World} (h:zn8 base ρ x l w) (e:Ext ρ ρ') (hw:w'.heap[l.c]?=w.heap[l.c]?):zn8 base ρ' x l w':=by
 unfold zn8 at h ⊢;split
 . obtain ⟨cc,el,fz,h1,h2,h3,h4,h5⟩:=h;exact ⟨cc,el,fz,hw.trans h1,h2,h3,λi v hv=>let ⟨v',a,b⟩:=h4 i v hv; ⟨v',a,b.mono e⟩,h5⟩
 . obtain ⟨h0,ces,clk,h1,h2,h3⟩:=h;exact ⟨h0,ces,clk,hw.trans h1,h2,λi k v hv=>let ⟨en,a,b,c⟩:=h3 i k v hv; ⟨en,a,b.mono e,c.mono e⟩⟩
 . obtain ⟨h0,L',h1,h2⟩:=h;exact ⟨h0,L',hw.trans h1,h2.mono e⟩
 . trivial
 . exact h.elim
theorem H0.heap {base:Nat} {ρ:Emb} {h:za} {w w':World} (hr:H0 base ρ h w) (e:w'.heap=w.heap):H0 base ρ h w':=
 ⟨λb l hb=>by rw [e]; exact hr.clt b l hb,λb l hb=>(hr.blk b l hb).mono (.refl _) (by rw [e]),hr.inj,by rw [e]; exact hr.base⟩
theorem zeb.heap {base:Nat} {ρ:Emb} {h:za} {w w':World} (hr:zeb base ρ h w) (e:w'.heap=w.heap):zeb base ρ h w':=⟨hr.toH0.heap e,hr.lt⟩
theorem Trans.heap {ρ:Emb} {h:za} {w w':World} (e:w'.heap=w.heap) (h1:w'.os=w.os) (h2:w'.tape=w.tape) (h3:w'.output=w.output):Trans ρ h w ρ h w':=
 .same (by rw [e]; exact Nat.le_refl _) (λ_ _ _=>by rw [e]) h1 h2 h3
theorem zjC {h:za} {x:zfy} {b:Nat} (hb:b≠h.next):Owns (h.push x) b↔Owns h b:=by
 unfold Owns; rw [za.get_push,if_neg hb]
theorem zkU {h:za} {x:zfy} {b:Nat} (hb:b≠h.next):Alive (h.push x) b↔Alive h b:=by
 unfold Alive; rw [za.get_push,if_neg hb]
theorem zpa {h:za} {x:zfy} {b b':Nat} (hb:b'≠b):Owns (h.set b x) b'↔Owns h b':=by
 unfold Owns; rw [za.get_set,if_neg hb]
theorem zmH {h:za} {x:zfy} {b b':Nat} (hb:b'≠b):Alive (h.set b x) b'↔Alive h b':=by
 unfold Alive; rw [za.get_set,if_neg hb]
theorem zlB {base:Nat} {ρ:Emb} {h:za} {w:World} (hr:H0 base ρ h w) (hfresh:ρ h.next=none) (x:zfy) (o:Obj) (w':World) (n:Nat)
 (hw:w'.heap=w.heap.push o) (h1:w'.os=w.os) (h2:w'.tape=w.tape) (h3:w'.output=w.output)
 (hx:zn8 base (ρ.add h.next ⟨w.heap.size,0,n⟩) (some x) ⟨w.heap.size,0,n⟩ w') :
 H0 base (ρ.add h.next ⟨w.heap.size,0,n⟩) (h.push x) w'/\Trans ρ h w (ρ.add h.next ⟨w.heap.size,0,n⟩) (h.push x) w':=by
 have he:Ext ρ (ρ.add h.next ⟨w.heap.size,0,n⟩):=.add hfresh;have hold:∀ k,k<w.heap.size->w'.heap[k]?=w.heap[k]?:=λk hk=>by
  rw [hw,Array.getElem?_push]; rw [if_neg (by omega)]
 have hsz:w'.heap.size=w.heap.size+1:=by rw [hw]; simp
 refine ⟨⟨?_, ?_, ?_,by have:=hr.base; omega⟩,⟨he,by omega,λk hk _=>hold k hk, ?_,h1,h2,h3,λb l L hb hg=>⟨L, ?_,.refl L⟩,Nat.le_succ _,λb l hb=>?_,λb hb _=>?_⟩⟩
 . intro b l hb;by_cases e:b=h.next
   . subst e; rw [Emb.add_same] at hb; cases hb; simp; omega
   . rw [Emb.add_ne _ _ _ e] at hb; have:=hr.clt b l hb; omega
 . intro b l hb;rw [za.get_push];by_cases e:b=h.next
   . subst e; rw [Emb.add_same] at hb; cases hb; rw [if_pos rfl]; exact hx
   . rw [Emb.add_ne _ _ _ e] at hb; rw [if_neg e];exact (hr.blk b l hb).mono he (hold _ (hr.clt b l hb))
 . intro b b' l l' hb hb' hne ho ha;by_cases e:b=h.next
   . have e':b'≠h.next:=λq=>hne (e.trans q.symm);subst e;rw [Emb.add_same] at hb; cases hb;rw [Emb.add_ne _ _ _ e'] at hb';have:=hr.clt b' l' hb';simp; omega
   . rw [Emb.add_ne _ _ _ e] at hb;have hc:=hr.clt b l hb;by_cases e':b'=h.next
     . subst e'; rw [Emb.add_same] at hb'; cases hb'; simp; omega
     . rw [Emb.add_ne _ _ _ e'] at hb';exact hr.inj b b' l l' hb hb' hne ((zjC e).1 ho) ((zkU e').1 ha)
 . intro b l hb ho;by_cases e:b=h.next
   . subst e; rw [Emb.add_same] at hb; cases hb; exact .inr (.inl (Nat.le_refl _))
   . rw [Emb.add_ne _ _ _ e] at hb;exact .inl ⟨hb,(zkU e).1 ho,(zjC e).1⟩
 . rw [za.get_push,if_neg (λq=>by rw [q,hfresh] at hb; cases hb)]; exact hg
 . by_cases e:b=h.next
   . exact .inr ⟨by omega,by simp [za.next_push]; omega⟩
   . rw [Emb.add_ne _ _ _ e] at hb; exact .inl hb
 . rw [za.get_push,if_neg (by omega)]
theorem zgs {base:Nat} {ρ:Emb} {h:za} {w:World} (hr:H0 base ρ h w) {b:Nat} {l:Loc} (hb:ρ b=some l) (ho:Owns h b) (x:zfy) (w':World)
    (hsz:w'.heap.size=w.heap.size) (hoth:∀ k,k≠l.c->w'.heap[k]?=w.heap[k]?) (h1:w'.os=w.os) (h2:w'.tape=w.tape) (h3:w'.output=w.output)
    (hx:zn8 base ρ (some x) l w') (hlp:∀ L,h.get b=some (.loop L)->∃ L',x=.loop L'/\zjB L L'):H0 base ρ (h.set b x) w'/\Trans ρ h w ρ (h.set b x) w':=by
  refine ⟨⟨λb' l' hb'=>by rw [hsz]; exact hr.clt b' l' hb', ?_, ?_,by rw [hsz]; exact hr.base⟩,⟨.refl ρ,by rw [hsz]; exact Nat.le_refl _, ?_, ?_,h1,h2,h3,λb' l' L hb' hg=>?_,Nat.le_refl _,λ_ _ hb=>.inl hb,λb' hb' hn=>?_⟩⟩
  · intro b' l' hb';rw [za.get_set];by_cases e:b'=b
    · subst e; rw [hb] at hb'; cases hb'; rw [if_pos rfl]; exact hx
    · rw [if_neg e];have hblk:=hr.blk b' l' hb';cases hg:h.get b' with
      | none=>rw [hg] at hblk; exact hblk.elim
      | some y=>
        cases y with
        | dead=>trivial
        | _=>
          rw [hg] at hblk;exact hblk.mono (.refl _) (hoth _ (λq=>hr.inj b b' l l' hb hb' (λq=>e q.symm) ho (by unfold Alive; rw [hg]; trivial) q.symm))
  · intro b1 b2 l1 l2 hb1 hb2 hne ho1 ha2;refine hr.inj b1 b2 l1 l2 hb1 hb2 hne ?_ ?_
    · by_cases e:b1=b
      · rw [e]; exact ho
      · exact (zpa e).1 ho1
    · by_cases e:b2=b
      · rw [e]; exact ho.alive
      · exact (zmH e).1 ha2
  · intro k _ hk;exact hoth k (λq=>hk b l hb ho q.symm)
  · intro b' l' hb' ha';by_cases e:b'=b
    · subst e; exact .inl ⟨hb',ho.alive,λ_=>ho⟩
    · exact .inl ⟨hb',(zmH e).1 ha',(zpa e).1⟩
  · rw [za.get_set];by_cases e:b'=b
    · subst e; obtain ⟨L',rfl,hs⟩:=hlp L hg; exact ⟨L',if_pos rfl,hs⟩
    · exact ⟨L,by rw [if_neg e]; exact hg,.refl L⟩
  · rw [za.get_set,if_neg (λq=>by rw [q,hb] at hn; cases hn)]
theorem zpb {base:Nat} {ρ:Emb} {h:za} {w:World} (hr:H0 base ρ h w) (hfresh:ρ h.next=none) {b:Nat} {l:Loc} (hb:ρ b=some l) (ho:Owns h b) (x:zfy) (o:Nat) (w':World)
    (hsz:w'.heap.size=w.heap.size) (hoth:∀ k,k≠l.c->w'.heap[k]?=w.heap[k]?) (h1:w'.os=w.os) (h2:w'.tape=w.tape) (h3:w'.output=w.output)
    (hx:zn8 base (ρ.add h.next ⟨l.c,o,l.n⟩) (some x) ⟨l.c,o,l.n⟩ w') (hlp:∀ L,h.get b≠some (.loop L)) :
    H0 base (ρ.add h.next ⟨l.c,o,l.n⟩) ((h.set b .dead).push x) w'/\Trans ρ h w (ρ.add h.next ⟨l.c,o,l.n⟩) ((h.set b .dead).push x) w':=by
  have hnx:(h.set b .dead).next=h.next:=rfl;have he:Ext ρ (ρ.add h.next ⟨l.c,o,l.n⟩):=.add hfresh;have hbn:b≠h.next:=λq=>by rw [q,hfresh] at hb; cases hb
  have hdn:∀ b' l',ρ b'=some l'->b'≠h.next:=λb' l' hb' q=>by rw [q,hfresh] at hb'; cases hb'
  have hcl:=hr.clt b l hb;have getp:∀ b',b'≠h.next->((h.set b .dead).push x).get b'=if b'=b then some .dead else h.get b':=λb' e=>by
    rw [za.get_push,hnx,if_neg e,za.get_set]
  have ownp:∀ b',b'≠h.next->Owns ((h.set b .dead).push x) b'->b'≠b/\Owns h b':=by
    intro b' e ho';unfold Owns at ho';rw [getp b' e] at ho';by_cases q:b'=b
    · rw [if_pos q] at ho'; exact ho'.elim
    · rw [if_neg q] at ho'; exact ⟨q,ho'⟩
  have alivep:∀ b',b'≠h.next->Alive ((h.set b .dead).push x) b'->b'≠b/\Alive h b':=by
    intro b' e ho';unfold Alive at ho';rw [getp b' e] at ho';by_cases q:b'=b
    · rw [if_pos q] at ho'; exact ho'.elim
    · rw [if_neg q] at ho'; exact ⟨q,ho'⟩
  refine ⟨⟨?_, ?_, ?_,by rw [hsz]; exact hr.base⟩,⟨he,by rw [hsz]; exact Nat.le_refl _, ?_, ?_,h1,h2,h3,λb' l' L hb' hg=>⟨L, ?_,.refl L⟩,Nat.le_succ _,λb' l' hb'=>?_,λb' hb' hn=>?_⟩⟩
  · intro b' l' hb';rw [hsz];by_cases e:b'=h.next
    · subst e; rw [Emb.add_same] at hb'; cases hb'; exact hcl
    · rw [Emb.add_ne _ _ _ e] at hb'; exact hr.clt b' l' hb'
  · intro b' l' hb';by_cases e:b'=h.next
    · subst e; rw [Emb.add_same] at hb'; cases hb';rw [za.get_push,hnx,if_pos rfl]; exact hx
    · rw [Emb.add_ne _ _ _ e] at hb';rw [getp b' e];by_cases q:b'=b
      · rw [if_pos q]; trivial
      · rw [if_neg q];have hblk:=hr.blk b' l' hb';cases hg:h.get b' with
        | none=>rw [hg] at hblk; exact hblk.elim
        | some y=>
          cases y with
          | dead=>trivial
          | _=>
            rw [hg] at hblk;exact hblk.mono he (hoth _ (λz=>hr.inj b b' l l' hb hb' (λz=>q z.symm) ho (by unfold Alive; rw [hg]; trivial) z.symm))
  · intro b1 b2 l1 l2 hb1 hb2 hne ho1 ha2;by_cases e1:b1=h.next
    · have e2:b2≠h.next:=λq=>hne (e1.trans q.symm);subst e1;rw [Emb.add_same] at hb1; cases hb1;rw [Emb.add_ne _ _ _ e2] at hb2;obtain ⟨q,ha⟩:=alivep b2 e2 ha2;exact hr.inj b b2 l l2 hb hb2 (λz=>q z.symm) ho ha
    · rw [Emb.add_ne _ _ _ e1] at hb1;obtain ⟨q1,hh1⟩:=ownp b1 e1 ho1;by_cases e2:b2=h.next
      · subst e2; rw [Emb.add_same] at hb2; cases hb2;exact hr.inj b1 b l1 l hb1 hb q1 hh1 ho.alive
      · rw [Emb.add_ne _ _ _ e2] at hb2;obtain ⟨q2,hh2⟩:=alivep b2 e2 ha2;exact hr.inj b1 b2 l1 l2 hb1 hb2 hne hh1 hh2
  · intro k _ hk;exact hoth k (λq=>hk b l hb ho q.symm)
  · intro b' l' hb' ha';by_cases e:b'=h.next
    · subst e; rw [Emb.add_same] at hb'; cases hb'; exact .inr (.inr ⟨b,l,hb,ho,rfl⟩)
    · rw [Emb.add_ne _ _ _ e] at hb'; exact .inl ⟨hb',(alivep b' e ha').2,λq=>(ownp b' e q).2⟩
  · have hq:¬ b'=b:=λq=>hlp L (by rw [← q]; exact hg);rw [getp b' (hdn b' l' hb'),if_neg hq]; exact hg
  · by_cases e:b'=h.next
    · exact .inr ⟨by omega,by rw [za.next_push,hnx]; omega⟩
    · rw [Emb.add_ne _ _ _ e] at hb'; exact .inl hb'
  · rw [getp b' (by omega),if_neg (λq=>by rw [q,hb] at hn; cases hn)]
theorem Tab.Ok.und {T:Tab} {P:Program} (ok:T.Ok P) {t:TypeId} {d:TypeDesc} (h:T.und t=some d):P.underlying t=some d:=by
 unfold Tab.und at h;cases hg:T.types.get t with
 | none=>rw [hg] at h; cases h
 | some i=>rw [hg] at h; cases h; exact (ok.types t i hg).1
theorem Tab.Ok.size {T:Tab} {P:Program} (ok:T.Ok P) {t:TypeId} {n:Nat} (h:szT T t=some n):∃ j,P.info? t=some j/\j.size=n:=by
 unfold szT at h;cases hg:T.types.get t with
 | none=>rw [hg] at h; cases h
 | some i=>rw [hg] at h; cases h; obtain ⟨_,j,hj,hs,_⟩:=ok.types t i hg; exact ⟨j,hj,hs⟩
theorem Tab.Ok.zero {T:Tab} {P:Program} (ok:T.Ok P) {t:TypeId} {z:ze} (h:zeR T t=some z):∃ j zv,P.info? t=some j/\j.zero=some zv/\zhe zv=some z:=by
 unfold zeR at h;cases hg:T.types.get t with
 | none=>rw [hg] at h; cases h
 | some i=>
  rw [hg] at h;obtain ⟨_,j,hj,_,_,hz,_⟩:=ok.types t i hg;obtain ⟨zv,hz1,hz2⟩:=hz z h;exact ⟨j,zv,hj,hz1,hz2⟩
theorem zi {P:Program} {t:TypeId} {d:TypeDesc} (h:P.underlying t=some d) (w:World):(underlying t).run P w=.ok d w:=by
 simp [underlying,h]
theorem z9 {P:Program} {t:TypeId} {j:TypeInfo} (h:P.info? t=some j) (w:World):(sizeOf t).run P w=.ok j.size w:=by
 simp [sizeOf,typeInfo,h]
theorem zds {P:Program} {t:TypeId} {j:TypeInfo} {z:Value} (h:P.info? t=some j) (hz:j.zero=some z) (w:World):(zeroValue t).run P w=.ok z w:=by
 simp [zeroValue,typeInfo,h,hz]
theorem ze7 {T:Tab} {P:Program} (ok:T.Ok P) {t:TypeId} {b:Bool} (h:zdI T t=some b) (w:World):(isAgg t).run P w=.ok b w:=by
 unfold zdI at h;split at h
 . rename_i hu; cases h; simp [isAgg,zi (ok.und hu)]
 . rename_i hu; cases h; simp [isAgg,zi (ok.und hu)]
 . rename_i d h1 h2 hu;cases h;have hd:=ok.und hu;cases d<;>first | (simp [isAgg,zi hd]; done) | (exact absurd rfl (h1 _)) | (exact absurd rfl (h2 _ _))
 . cases h
def VOk (P:Program) (base:Nat) (ρ:Emb) (h:za) (w:World) (s:Sem Value) (v:ze) (h':za):Prop:=
 ∃ v' w' ρ',s.run P w=.ok v' w'/\zaa ρ' v v'/\H0 base ρ' h' w'/\Trans ρ h w ρ' h' w'
def UOk (P:Program) (base:Nat) (ρ:Emb) (h:za) (w:World) (s:Sem Unit) (h':za):Prop:=
 ∃ w' ρ',s.run P w=.ok () w'/\H0 base ρ' h' w'/\Trans ρ h w ρ' h' w'
theorem VOk.pure {P:Program} {base:Nat} {ρ:Emb} {h:za} {w:World} {s:Sem Value} {v:ze} {v':Value} (hr:H0 base ρ h w) (hs:s.run P w=.ok v' w) (hv:zaa ρ v v'):VOk P base ρ h w s v h:=
 ⟨v',w,ρ,hs,hv,hr,.refl ρ h w⟩
end Go.Ai
/- An abstract interpreter for the model's code: each operation does to the model's memory what its abstract twin does to the abstract heap. -/
namespace Go.Ai
section
variable {T:Tab} {P:Program} (ok:T.Ok P) {base:Nat} {ρ:Emb} {h:za} {w:World}
theorem zmI (hr:H0 base ρ h w) {b:Nat} {l:Loc} {cells:List ze} {ro:Bool} (hb:ρ b=some l) (hg:h.get b=some (.arr cells ro)) :
 ∃ cc el fz,w.heap[l.c]?=some (.cells cc el fz)/\cc.size=l.n/\l.o+cells.length<=l.n/\zcd ρ cells ((cc.toList.drop l.o).take cells.length)/\(ro=false->fz=(0,0)/\base<=l.c):=by
 have hblk:=hr.blk b l hb;rw [hg] at hblk;obtain ⟨cc,el,fz,h1,h2,h3,h4,h5⟩:=hblk;refine ⟨cc,el,fz,h1,h2,h3,⟨?_, ?_⟩,h5⟩
 . rw [List.length_take,List.length_drop];have:cc.toList.length=cc.size:=rfl;omega
 . intro i v v' hv hv';obtain ⟨u,hu,hvu⟩:=h4 i v hv;have hi:i<cells.length:=(List.getElem?_eq_some_iff.1 hv).1;rw [List.getElem?_take,if_pos hi,List.getElem?_drop,Array.getElem?_toList,hu] at hv';cases hv'; exact hvu
theorem zgt {ρ:Emb} {cells:List ze} {cc:Array Value} {o:Nat} (hl:zcd ρ cells ((cc.toList.drop o).take cells.length)) (off n:Nat) (hn:off+n<=cells.length) (_hc:o+cells.length<=cc.size) :
 zcd ρ ((cells.drop off).take n) ((cc.toList.drop (o+off)).take n):=by
 have:=(hl.drop off).take n;have e:((((cc.toList.drop o).take cells.length).drop off).take n)=((cc.toList.drop (o+off)).take n):=by
  rw [List.drop_take,List.drop_drop,List.take_take];congr 1;omega
 rw [e] at this;exact this
theorem zgu (w:World) (c o n:Nat) (cc:Array Value) (el:TypeId) (fz:Nat×Nat) (hg:w.heap[c]?=some (.cells cc el fz)) :
 ∀ j v,((cc.toList.drop o).take n)[j]?=some v->w.cell? ((⟨c,o,none⟩:Addr).add j)=some v:=by
 intro j v hv;rw [Addr.add_lit,cell_of_row w c (o+j) cc el fz hg];rw [List.getElem?_take] at hv;split at hv
 . rw [List.getElem?_drop,Array.getElem?_toList] at hv; exact hv
 . cases hv
theorem zjD (w:World) (c o n:Nat) (cc:Array Value) (el:TypeId) (fz:Nat×Nat) (hg:w.heap[c]?=some (.cells cc el fz)) (hn:o+n<=cc.size) :
 (loadCells ⟨c,o,none⟩ n).run P w=.ok ((cc.toList.drop o).take n).toArray w:=by
 have h:=run_loadCells_list (P:=P) w ⟨c,o,none⟩ ((cc.toList.drop o).take n) (zgu w c o n cc el fz hg);have e:((cc.toList.drop o).take n).length=n:=by rw [List.length_take,List.length_drop,Array.length_toList]; omega
 rw [e] at h;exact h
include ok in
theorem zwa {t:TypeId} {a v:ze} {a':Value} (hr:H0 base ρ h w) (ha:zaa ρ a a') (hl:aload T t h a=some v):VOk P base ρ h w (Instr.loadAt t a') v h:=by
 unfold aload at hl;split at hl
 case h_2=>cases hl
 rename_i b off;cases ha with
 | ptr _ _ l hb=>
 split at hl
 case h_2=>cases hl
 rename_i cells ro hg;obtain ⟨cc,el,fz,h1,h2,h3,h4,h5⟩:=zmI hr hb hg;unfold apart at hl;split at hl
 . rename_i hagg;split at hl
   . rename_i n hn;split at hl
     . rename_i hle;cases hl;obtain ⟨j,hj,hjs⟩:=ok.size hn;refine .pure (v':=.agg ((cc.toList.drop (l.o+off)).take n).toArray) hr ?_ (.agg' (zgt h4 off n hle (by omega)));simp only [Instr.loadAt,Instr.sureAddr,loadVar,Sem.run_bind,Sem.run_pure,Result.andThen_ok,ze7 ok hagg,if_true,z9 hj,hjs];rw [zjD w l.c (l.o+off) n cc el fz h1 (by omega)];rfl
     . cases hl
   . cases hl
 . rename_i hagg;have hi:off<cells.length:=(List.getElem?_eq_some_iff.1 hl).1;obtain ⟨v',hv',hvv⟩:=h4.at hl;rw [List.getElem?_take,if_pos hi,List.getElem?_drop,Array.getElem?_toList] at hv';refine .pure (v':=v') hr ?_ hvv;simp only [Instr.loadAt,Instr.sureAddr,loadVar,Sem.run_bind,Sem.run_pure,Result.andThen_ok,ze7 ok hagg,Bool.false_eq_true,if_false,run_load];rw [cell_of_row w l.c (l.o+off) cc el fz h1,hv']
 . cases hl
theorem zkV {ρ:Emb} {cells:List ze} {cc:Array Value} {o off:Nat} {vs:List ze} {vs':List Value} (hl:zcd ρ cells ((cc.toList.drop o).take cells.length)) (hc:o+cells.length<=cc.size)
 (hv:zcd ρ vs vs') (hle:off+vs.length<=cells.length) :
 ∀ (i:Nat) (v:ze),(splice cells off vs)[i]?=some v->∃ v',((cc.toList.take (o+off)++vs'++cc.toList.drop (o+off+vs'.length)).toArray)[o+i]?=some v'/\zaa ρ v v':=by
 intro i v hi;have hlen:=hv.1;unfold splice at hi;have e1:(cells.take off).length=off:=by rw [List.length_take]; omega
 have e2:(cc.toList.take (o+off)).length=o+off:=by rw [List.length_take,Array.length_toList]; omega
 simp only [List.getElem?_toArray];rw [List.append_assoc] at hi ⊢;by_cases c1:i<off
 . rw [List.getElem?_append_left (by omega),List.getElem?_take,if_pos c1] at hi;obtain ⟨v',hv',hvv⟩:=hl.at hi;rw [List.getElem?_take,if_pos (by omega),List.getElem?_drop] at hv';refine ⟨v', ?_,hvv⟩;rw [List.getElem?_append_left (by omega),List.getElem?_take,if_pos (by omega)];exact hv'
 . rw [List.getElem?_append_right (by omega),e1] at hi;by_cases c2:i-off<vs.length
   . rw [List.getElem?_append_left c2] at hi;obtain ⟨v',hv',hvv⟩:=hv.at hi;refine ⟨v', ?_,hvv⟩;rw [List.getElem?_append_right (by omega),e2,List.getElem?_append_left (by omega)];rw [show o+i-(o+off)=i-off from by omega];exact hv'
   . rw [List.getElem?_append_right (by omega),List.getElem?_drop] at hi;have hi':i<cells.length:=by have:=(List.getElem?_eq_some_iff.1 hi).1; omega
     rw [show off+vs.length+(i-off-vs.length)=i from by omega] at hi;obtain ⟨v',hv',hvv⟩:=hl.at hi;rw [List.getElem?_take,if_pos hi',List.getElem?_drop] at hv';refine ⟨v', ?_,hvv⟩;rw [List.getElem?_append_right (by omega),e2,List.getElem?_append_right (by omega),List.getElem?_drop];rw [show o+off+vs'.length+(o+i-(o+off)-vs'.length)=o+i from by omega];exact hv'
theorem zf3 {cells vs:List ze} {off:Nat} (hle:off+vs.length<=cells.length):(splice cells off vs).length=cells.length:=by
 unfold splice; simp; omega
theorem zlC {ρ:Emb}:∀ {vs:List ze} {vs':List Value},zcd ρ vs vs'->vs.all ze.one=true->∀ v∈vs',v.oneCell'=true
 | [],vs',h,_,v,hv=>by rw [h.nil_inv] at hv; cases hv
 | x::xs,vs',h,ho,v,hv=>by
  obtain ⟨y,ys,rfl,h1,h2⟩:=h.cons_inv;simp only [List.all_cons,Bool.and_eq_true] at ho;rcases List.mem_cons.1 hv with rfl | hm
  . have:=h1.one ho.1;cases v<;>first | rfl | exact this
  . exact zlC h2 ho.2 v hm
theorem zjE {b:Nat} {l:Loc} {cells:List ze} {off:Nat} {vs:List ze} {vs':List Value} (hr:H0 base ρ h w) (hb:ρ b=some l) (hg:h.get b=some (.arr cells false))
 (hv:zcd ρ vs vs') (hle:off+vs.length<=cells.length) (hone:vs.all ze.one=true) :
 ∃ w',(storeCells ⟨l.c,l.o+off,none⟩ vs').run P w=.ok () w'/\H0 base ρ (h.set b (.arr (splice cells off vs) false)) w'/\Trans ρ h w ρ (h.set b (.arr (splice cells off vs) false)) w':=by
 obtain ⟨cc,el,fz,h1,h2,h3,h4,h5⟩:=zmI hr hb hg;obtain ⟨rfl,hbase⟩:=h5 rfl;have hst:=run_storeCells_at P l.c (l.o+off) el vs' 0 cc w h1 (by have:=hv.1; omega) (zlC hv hone);simp only [Nat.add_zero] at hst;have ho:Owns h b:=by unfold Owns; rw [hg]; trivial
 refine ⟨_,hst, ?_⟩;refine zgs hr hb ho _ _ (by simp) (λk hk=>setRow_other w l.c k _ hk) rfl rfl rfl ?_ (by rw [hg]; simp);refine ⟨_,el,(0,0),setRow_heap w l.c cc _ el _ h1, ?_, ?_,zkV h4 (by omega) hv hle,λ_=>⟨rfl,hbase⟩⟩
 . have:=hv.1;simp; omega
 . rw [zf3 hle]; omega
include ok in
theorem ztw {t:TypeId} {a v:ze} {a' v':Value} {h':za} (hr:H0 base ρ h w) (ha:zaa ρ a a') (hv:zaa ρ v v') (hl:astore T t h a v=some h'):UOk P base ρ h w (Instr.storeAt t a' v') h':=by
 unfold astore at hl;split at hl
 case h_2=>cases hl
 rename_i b off;cases ha with
 | ptr _ _ l hb=>
 split at hl
 case h_2=>cases hl
 rename_i cells hg;split at hl
 case h_2=>cases hl
 rename_i n hn;split at hl
 case isFalse=>cases hl
 rename_i hc;obtain ⟨hc1,hc2,hc3⟩:=hc;cases hl;obtain ⟨j,hj,hjs⟩:=ok.size hn;have hu:v≠.undef:=by
  rintro rfl
  simp [ze.cells,ze.one] at hc3
 have hcs:=hv.cells hu;obtain ⟨w',hst,hr',htr⟩:=zjE (P:=P) (off:=off) hr hb hg hcs (by omega) hc3;refine ⟨w',ρ, ?_,hr',htr⟩;have hlen:=hcs.1;have hsz:v'.cells.size=n:=by rw [← hc1,hlen]; simp
 simp only [Instr.storeAt,Instr.sureAddr,storeVar,Sem.run_bind,Sem.run_pure,Result.andThen_ok,z9 hj,hjs,hsz,ne_eq,not_true_eq_false,if_false];exact hst
def cval:ze->Value
 | .int k n=>.int k n
 | .bool b=>.bool b
 | _=>undef
theorem zn9 {op:BinOp} {k:IntKind} {a b:Int} {v:ze} (t:TypeId) (hl:aint op k a b=some v) :
 (binOp op t (.int k a) (.int k b)).run P w=.ok (cval v) w/\zaa ρ v (cval v):=by
 cases op<;>simp only [aint] at hl<;>(try split at hl)<;>(try cases hl);all_goals refine ⟨?_,by first | exact .int _ _ | exact .bool _⟩
 all_goals simp only [binOp,cval]
 all_goals first
  | (simp [Op.intArith]; done)
  | (simp [Op.intCmp]; done)
  | (simp [Op.intDiv, *]; done)
  | (simp [Op.intBits]; done)
  | (simp [Op.shift, *]; done)
include ok in
theorem zjF {t:TypeId} {cs:List ze} {cs':Array Value} {off:Nat} {v:ze} (hc:zcd ρ cs cs'.toList) (hl:apart T t cs off=some v) :
 ∃ v',(part t cs' off).run P w=.ok v' w/\zaa ρ v v':=by
 unfold apart at hl;split at hl
 . rename_i hagg;split at hl
   case h_2=>cases hl
   rename_i n hn;split at hl
   case isFalse=>cases hl
   cases hl;obtain ⟨j,hj,hjs⟩:=ok.size hn;refine ⟨.agg (cs'.extract off (off+n)), ?_, ?_⟩
   . simp [part,ze7 ok hagg,z9 hj,hjs]
   . have:=zaa.agg' ((hc.drop off).take n);have e:((cs'.toList.drop off).take n).toArray=cs'.extract off (off+n):=by
      apply Array.ext';simp [Array.toList_extract,List.extract_eq_take_drop]
     rw [e] at this;exact this
 . rename_i hagg;obtain ⟨v',hv',hvv⟩:=hc.at hl;refine ⟨v', ?_,hvv⟩;rw [Array.getElem?_toList] at hv';simp [part,ze7 ok hagg,hv']
 . cases hl
end
end Go.Ai
/- An abstract interpreter for the model's code: equality,and the operators. -/
namespace Go.Ai
section
variable {T:Tab} {P:Program} (ok:T.Ok P) {base:Nat} {ρ:Emb} {h:za} {w:World}
include ok in
theorem zq1:∀ (d:Nat) (t:TypeId) (x y:ze) (x' y':Value) (r:Bool) (D:Nat),d≤D->zaa ρ x x'->zaa ρ y y'->aeq T d t x y=some r->(Op.equalIn D t x' y').run P w=.ok r w
  | 0,_,_,_,_,_,_,_,_,_,_,h=>by simp [aeq] at h
  | d+1,t,x,y,x',y',r,D,hD,hx,hy,h=>by
    obtain ⟨D,rfl⟩:∃ E,D=E+1:=⟨D-1,by omega⟩;simp only [aeq] at h;split at h
    case h_19=>
      rename_i fields xs ys ht;split at h
      · cases h
      rename_i hst;obtain ⟨xs',rfl,hxs⟩:=hx.agg_inv;obtain ⟨ys',rfl,hys⟩:=hy.agg_inv;have hu:=ok.und ht;have hf:P.fieldsOf t=fields:=by simp [Program.fieldsOf,hu]
      have hp:P.stoodInHeld t=false:=by
        cases hg:T.types.get t with
        | none=>rw [hg] at hst; simp at hst
        | some i=>
          rw [hg] at hst;simp at hst;obtain ⟨_,j,_,_,_,_,hs,_⟩:=ok.types t i hg;exact hs hst
      rw [run_equalIn_struct w D t xs' ys' (by rw [hf]; exact hu) hp,hf];revert h;generalize fields.toList=fs;intro h;clear ht hst hu hf;induction fs with
      | nil=>simp only [zc4] at h; cases h; rfl
      | cons f fs ih=>
        simp only [zc4] at h;simp only [Op.eqFields]
        by_cases hn : f.name ≠ "_"
        · rw [if_pos hn] at h;rw [if_pos hn];cases ha:apart T f.type xs f.offset with
          | none=>simp [ha] at h
          | some u=>
            cases hb:apart T f.type ys f.offset with
            | none=>simp [ha,hb] at h
            | some v=>
              simp only [ha,hb] at h;obtain ⟨u',hu1,hu2⟩:=zjF ok (w:=w) hxs ha;obtain ⟨v',hv1,hv2⟩:=zjF ok (w:=w) hys hb;cases he:aeq T d f.type u v with
              | none=>simp [he] at h
              | some q=>
                have hq:=zq1 d f.type u v u' v' q D (by omega) hu2 hv2 he;simp only [he] at h;simp only [Sem.run_bind,hu1,hv1,hq,Result.andThen_ok];cases q with
                | true=>simp only [Bool.not_true,Bool.false_eq_true,if_false]; exact ih h
                | false=>simp at h; subst h; simp
        · rw [if_neg hn] at h;rw [if_neg hn];exact ih h
    case h_20=>cases h
    all_goals
      rename_i ht;have hu:=ok.und ht;cases hx;cases hy
    all_goals first
      | (simp only [Option.some.injEq] at h; subst h; simp [Op.equalIn,zi hu]; done)
      | (split at h
         · rename_i hk;cases h;simp [Op.equalIn,zi hu,hk]
         · cases h)
      | skip
theorem zoa (op:BinOp) (t:TypeId) (X Y:Operand) (k k':IntKind) (a b:Int):(eqGuard op t X Y (.int k a) (.int k' b)).run P w=.ok () w:=by
 cases op<;>rfl
include ok in
theorem zmJ {op:BinOp} {t:TypeId} (X Y:Operand) {x y:ze} {x' y':Value} (hop:op=.eql\/op=.neq) (hx:zaa ρ x x') (hy:zaa ρ y y') (h:aguard T t x y=true):(eqGuard op t X Y x' y').run P w=.ok () w:=by
 unfold aguard at h;split at h
 . cases hx;split at h
   . cases hy;split at h
     . rename_i ms hu;have hu':=ok.und hu;have hg:(Op.eqGuardIn Op.maxDepth t .nilIface .nilIface).run P w=.ok false w:=by
        have hd:Op.maxDepth=(Op.maxDepth-1)+1:=rfl;rw [hd];generalize Op.maxDepth-1=D;simp [Op.eqGuardIn,zi hu',h,Sem.run_bind]
       unfold eqGuard;rcases hop with rfl | rfl
       . cases hc:((X matches .const _)||(Y matches .const _))<;>simp [hc,hg,Sem.run_bind]
       . cases hc:((X matches .const _)||(Y matches .const _))<;>simp [hc,hg,Sem.run_bind]
     . cases h
   . cases h
   . rename_i hne hnu;rcases hop with rfl | rfl<;>cases hy<;>first | (exact (hne rfl).elim) | (exact (hnu rfl).elim) | rfl
 . cases hx; cases hy;cases hg:T.types.get t with
   | none=>rw [hg] at h; simp at h
   | some i=>
    rw [hg] at h;simp at h;obtain ⟨_,j,_,_,_,_,_,he⟩:=ok.types t i hg;exact run_eqGuard_agg w op t X Y _ _ (he h)
 . cases h
 . cases h
 . rename_i h1 h2 h3 h4;rcases hop with rfl | rfl<;>cases hx<;>first
    | rfl
    | (exact absurd rfl h3)
    | (exact (h1 rfl).elim)
    | (exact (h2 rfl).elim)
    | (cases hy<;>first | rfl | (exact (h3 rfl).elim) | (exact (h4 _ _ rfl rfl).elim))
theorem zlD {t:TypeId} {x y:Value} (hi:∀ k a k' b,¬ (x=.int k a/\y=.int k' b)) (hs:∀ a b,¬ (x=.string a/\y=.string b)) {r:Bool}
 (hf:∀ k a k' b,¬ (x=.float k a/\y=.float k' b)) (hc:∀ k a b k' c d,¬ (x=.complex k a b/\y=.complex k' c d))
 (he:(Op.equalIn 10000 t x y).run P w=.ok r w):(binOp .eql t x y).run P w=.ok (.bool r) w/\(binOp .neq t x y).run P w=.ok (.bool (!r)) w:=by
 have e:(Op.equal t x y).run P w=.ok r w:=he;constructor;all_goals
  unfold binOp;split<;>first
   | (rename_i h1 h2; cases h1; done)
   | (exfalso; exact hi _ _ _ _ ⟨rfl,rfl⟩)
   | (exfalso; exact hs _ _ ⟨rfl,rfl⟩)
   | (exfalso; exact hf _ _ _ _ ⟨rfl,rfl⟩)
   | (exfalso; exact hc _ _ _ _ _ _ ⟨rfl,rfl⟩)
   | (simp [e]; done)
   | (simp_all; done)
include ok in
theorem zyj {op:BinOp} {t:TypeId} (X Y:Operand) {x y v:ze} {x' y':Value} (hx:zaa ρ x x') (hy:zaa ρ y y') (hl:abin T op t x y=some v) :
    ∃ v',(do eqGuard op t X Y x' y'; binOp op t x' y':Sem Value).run P w=.ok v' w/\zaa ρ v v':=by
  unfold abin at hl;split at hl
  · rename_i k a k' b;cases hx; cases hy;simp only [Sem.run_bind,zoa,Result.andThen_ok];split at hl
    · obtain ⟨h1,h2⟩:=zn9 (P:=P) (w:=w) (ρ:=ρ) t hl;exact ⟨_,by simp only [binOp,Op.shift] at h1 ⊢; exact h1,h2⟩
    · obtain ⟨h1,h2⟩:=zn9 (P:=P) (w:=w) (ρ:=ρ) t hl;exact ⟨_,by simp only [binOp,Op.shift] at h1 ⊢; exact h1,h2⟩
    · split at hl
      · rename_i hk;subst hk;obtain ⟨h1,h2⟩:=zn9 (P:=P) (w:=w) (ρ:=ρ) t hl;exact ⟨_,h1,h2⟩
      · cases hl
  · cases hl
  · rename_i hni hns;have main:∀ r:Bool,aguard T t x y=true->aeq T 8 t x y=some r->(binOp .eql t x' y').run P w=.ok (.bool r) w/\(binOp .neq t x' y').run P w=.ok (.bool (!r)) w:=by
      intro r hg he;have hu1:x≠.undef:=by rintro rfl; simp [aeq] at he
      have hu2:y≠.undef:=by
        rintro rfl
        cases x<;>simp [aeq] at he
      refine zlD ?_ ?_ ?_ ?_ (zq1 ok 8 t x y x' y' r 10000 (by omega) hx hy he)
      · rintro k a k' b ⟨rfl,rfl⟩
        cases hx<;>first | (exact hu1 rfl) | (cases hy<;>first | (exact hu2 rfl) | (exact hni _ _ _ _ rfl rfl))
      · rintro a b ⟨rfl,rfl⟩
        cases hx<;>first | (exact hu1 rfl) | (cases hy<;>first | (exact hu2 rfl) | (exact hns _ _ rfl rfl))
      · rintro k a k' b ⟨rfl,rfl⟩
        cases hx
        · exact hu1 rfl
        · simp [aeq] at he
      · rintro k a b k' c d ⟨rfl,rfl⟩
        cases hx; exact hu1 rfl
    split at hl
    · split at hl
      · rename_i hg;cases he:aeq T 8 t x y with
        | none=>rw [he] at hl; cases hl
        | some r=>
          rw [he] at hl; cases hl;refine ⟨.bool r, ?_,.bool r⟩;simp only [Sem.run_bind,zmJ ok X Y (.inl rfl) hx hy hg,Result.andThen_ok,(main r hg he).1]
      · cases hl
    · split at hl
      · rename_i hg;cases he:aeq T 8 t x y with
        | none=>rw [he] at hl; cases hl
        | some r=>
          rw [he] at hl; cases hl;refine ⟨.bool (!r), ?_,.bool _⟩;simp only [Sem.run_bind,zmJ ok X Y (.inr rfl) hx hy hg,Result.andThen_ok,(main r hg he).2]
      · cases hl
    · cases hl
theorem zzI {op:UnOp} {x v:ze} {x':Value} (hx:zaa ρ x x') (hl:aun op x=some v):∃ v',(Op.unary op x').run P w=.ok v' w/\zaa ρ v v':=by
 unfold aun at hl;split at hl
 . cases hx;simp only [aint] at hl;cases hl;exact ⟨_,by simp [Op.unary,Op.intArith],.int _ _⟩
 . cases hx;simp only [aint] at hl;cases hl;exact ⟨_,by simp [Op.unary,Op.intBits],.int _ _⟩
 . cases hx;cases hl;exact ⟨_,by simp [Op.unary],.bool _⟩
 . cases hl
end
end Go.Ai
/- An abstract interpreter for the model's code: addresses,parts,rows,slices. -/
namespace Go.Ai
section
variable {T:Tab} {P:Program} (ok:T.Ok P) {base:Nat} {ρ:Emb} {h:za} {w:World}
include ok in
theorem zmK {s:TypeId} {x v:ze} {x':Value} {i:Nat} (hx:zaa ρ x x') (hl:ze5 T s x i=some v):∃ v',(Instr.fieldAt s x' i).run P w=.ok v' w/\zaa ρ v v':=by
 unfold ze5 at hl;split at hl
 case h_2=>cases hl
 rename_i fields hu;split at hl
 case h_2=>cases hl
 rename_i f hf;split at hl
 case h_2=>cases hl
 rename_i n b off hn;split at hl
 . cases hl
 rename_i hn0;cases hl;cases hx with
 | ptr _ _ l hb=>
 obtain ⟨j,hj,hjs⟩:=ok.size hn;refine ⟨.pointer (some ⟨l.c,l.o+(off+f.offset),none⟩), ?_,.ptr b (off+f.offset) l hb⟩;simp only [Instr.fieldAt,Sem.run_bind,zi (ok.und hu),Result.andThen_ok,hf,Instr.sureAddr,Sem.run_pure,fieldPlace,z9 hj,hjs,if_neg hn0,Addr.add_lit,Nat.add_assoc]
include ok in
theorem zmL {t:TypeId} {x ix v:ze} {x' ix':Value} (hx:zaa ρ x x') (hi:zaa ρ ix ix') (hl:zde T t x ix=some v):∃ v',(Instr.indexAt t x' ix').run P w=.ok v' w/\zaa ρ v v':=by
 unfold zde at hl;split at hl
 case h_2=>cases hl
 rename_i k i;cases hi;split at hl
 . rename_i len elem b off hu;split at hl
   case h_2=>cases hl
   rename_i n hn;split at hl
   case isFalse=>cases hl
   rename_i hb;cases hl;cases hx with
   | ptr _ _ l hb'=>
   obtain ⟨j,hj,hjs⟩:=ok.size hn;refine ⟨.pointer (some ⟨l.c,l.o+(off+i.toNat*n),none⟩), ?_,.ptr b _ l hb'⟩;have h1:(0<=i/\i<(len:Int)):=hb;simp only [Instr.indexAt,asIntOf,Sem.run_bind,Sem.run_pure,zi (ok.und hu),Result.andThen_ok,Instr.sureAddr,z9 hj,hjs,if_pos h1,Sem.run_ite,Addr.add_lit,Nat.add_assoc]
 . rename_i elem b off len es cap hu;split at hl
   case h_2=>cases hl
   rename_i n hn;split at hl
   case isFalse=>cases hl
   rename_i hb;cases hl;cases hx with
   | slice _ _ _ _ _ l a ccap hb' hlen hcap hoff=>
   obtain ⟨j,hj,hjs⟩:=ok.size hn;have h1:(0<=i/\i<(len:Int)):=⟨hb.1,hb.2.1⟩;have h2:a=⟨l.c,l.o+off,none⟩:=by
    rcases hoff with h0 | ⟨h2,_⟩
    . omega
    . exact h2
   subst h2;refine ⟨.pointer (some ⟨l.c,l.o+(off+i.toNat*n),none⟩), ?_,.ptr b _ l hb'⟩;simp only [Instr.indexAt,asIntOf,Sem.run_bind,Sem.run_pure,zi (ok.und hu),Result.andThen_ok,z9 hj,hjs,if_pos h1,Sem.run_ite,Addr.add_lit,Nat.add_assoc]
 . cases hl
include ok in
theorem ztx {t:TypeId} {x ix v:ze} {x' ix':Value} (hx:zaa ρ x x') (hi:zaa ρ ix ix') (hl:aindex T t x ix=some v):∃ v',(Instr.index t x' ix').run P w=.ok v' w/\zaa ρ v v':=by
 unfold aindex at hl;split at hl
 case h_2=>cases hl
 rename_i k i;cases hi;split at hl
 case h_3=>cases hl
 case h_2=>
  rename_i s hu;split at hl
  case isFalse=>cases hl
  rename_i h0;cases hx;cases hb:s[i.toNat]? with
  | none=>rw [hb] at hl; cases hl
  | some b=>
   rw [hb] at hl;cases hl;refine ⟨_, ?_,.int _ _⟩;simp only [Instr.index,asIntOf,Sem.run_bind,Sem.run_pure,zi (ok.und hu),Result.andThen_ok,if_pos h0,hb]
 rename_i len elem cs hu;split at hl
 case h_2=>cases hl
 rename_i n hn;split at hl
 case isFalse=>cases hl
 rename_i hb;obtain ⟨cs',rfl,hcs⟩:=hx.agg_inv;obtain ⟨j,hj,hjs⟩:=ok.size hn;obtain ⟨v',hv',hvv⟩:=zjF ok (w:=w) hcs hl;refine ⟨v', ?_,hvv⟩;have h1:(0<=i/\i<(len:Int)):=hb;simp only [Instr.index,asIntOf,Sem.run_bind,Sem.run_pure,zi (ok.und hu),Result.andThen_ok,z9 hj,hjs,if_pos h1,Sem.run_ite];exact hv'
include ok in
theorem zty {t:TypeId} {x v:ze} {x':Value} {i:Nat} (hx:zaa ρ x x') (hl:afield T t x i=some v):∃ v',(Instr.field t x' i).run P w=.ok v' w/\zaa ρ v v':=by
 unfold afield at hl;split at hl
 case h_2=>cases hl
 rename_i fields hu;split at hl
 case h_2=>cases hl
 rename_i f cs hf;obtain ⟨cs',rfl,hcs⟩:=hx.agg_inv;obtain ⟨v',hv',hvv⟩:=zjF ok (w:=w) hcs hl;refine ⟨v', ?_,hvv⟩;simp only [Instr.field,Sem.run_bind,zi (ok.und hu),Result.andThen_ok,hf,asAgg,Sem.run_pure];exact hv'
include ok in
theorem zqd {src dst:TypeId} {x v:ze} {x':Value} (hx:zaa ρ x x') (hl:aconvert T src dst x=some v):∃ v',(convert src dst x').run P w=.ok v' w/\zaa ρ v v':=by
 unfold aconvert at hl;split at hl
 case h_4=>cases hl
 . rename_i d k k' n hs hu;cases hl;cases hx;refine ⟨_, ?_,.int _ _⟩;simp only [convert,Sem.run_bind,zi (ok.und hs),zi (ok.und hu),Result.andThen_ok];cases d<;>rfl
 . rename_i d k k' n hs hu;cases hl;cases hx;refine ⟨_, ?_,.float _ _⟩;simp only [convert,Sem.run_bind,zi (ok.und hs),zi (ok.und hu),Result.andThen_ok];cases d<;>rfl
 . rename_i d k f b hs hu;cases hx;split at hl
   case h_2=>cases hl
   rename_i n hn;split at hl
   case isFalse=>cases hl
   rename_i hr;cases hl;refine ⟨_, ?_,.int _ _⟩;have e:(Conv.floatToInt f b k).run P w=.ok (.int k n) w:=by
    unfold Conv.floatToInt;simp only [hn,if_pos hr];rfl
   simp only [convert,Sem.run_bind,zi (ok.und hs),zi (ok.und hu),Result.andThen_ok];cases d<;>exact e
theorem zdT (n:Nat) (z:List ze):(copies n z).length=n*z.length:=by
 induction n with
 | zero=>simp [copies]
 | succ n ih=>simp [copies,ih,Nat.succ_mul]; omega
theorem zkW {ρ:Emb} {z:List ze} {z':Array Value} (hz:zcd ρ z z'.toList) (h0:0<z.length):∀ n,zcd ρ (copies n z) ((Array.range (n*z.length)).map (λi=>z'[i%z'.size]!)).toList:=by
 intro n;have hs:z.length=z'.size:=by rw [hz.1]; simp
 refine ⟨by simp [zdT], ?_⟩;intro i v v' hv hv';have hi:i<n*z.length:=by rw [← zdT]; exact (List.getElem?_eq_some_iff.1 hv).1
 have key:∀ (n i:Nat),i<n*z.length->(copies n z)[i]?=z[i%z.length]?:=by
  intro n;induction n with
  | zero=>intro i hi; simp at hi
  | succ n ih=>
   intro i hi;simp only [copies];by_cases c:i<z.length
   . rw [List.getElem?_append_left c,Nat.mod_eq_of_lt c]
   . rw [List.getElem?_append_right (by omega),ih (i-z.length) (by rw [Nat.succ_mul] at hi; omega)];congr 1;rw [← Nat.mod_eq_sub_mod (by omega)]
 rw [key n i hi] at hv;have hr:(List.range (n*z.length))[i]?=some i:=List.getElem?_range hi;simp [hr] at hv';subst hv';have hm:i%z.length<z.length:=Nat.mod_lt _ h0;have:=hz.2 (i%z.length) v (z'[i%z'.size]!) hv (by
  rw [hs] at hm ⊢;rw [Array.getElem?_toList,Array.getElem?_eq_getElem hm];congr 1;exact (getElem!_pos z' _ hm).symm)
 exact this
theorem zpc (off:Nat):∀ (vs:List Value) (k:Nat) (a:Array Value),off+k+vs.length<=a.size ->
    ((vs.zipIdx k).foldl (λcs (x:Value×Nat)=>cs.setIfInBounds (off+x.2) x.1) a).toList=a.toList.take (off+k)++vs++a.toList.drop (off+k+vs.length)
  | [],k,a,_=>by simp
  | v::vs,k,a,h=>by
    simp only [List.length_cons] at h;simp only [List.zipIdx_cons,List.foldl_cons];rw [zpc off vs (k+1) _ (by simp; omega)];have hl:off+k<a.toList.length:=by simp; omega
    have e1:(a.setIfInBounds (off+k) v).toList=a.toList.set (off+k) v:=by simp
    rw [e1,show off+(k+1)=off+k+1 from by omega];rw [List.take_add_one,List.take_set_of_le (Nat.le_refl _),List.getElem?_set_self hl,List.drop_set_of_lt (by omega)];simp [Nat.add_assoc,Nat.add_comm 1]
theorem zje {ρ:Emb} (place:Nat->Option (Nat×Nat)):∀ (parts:List (Nat×ze)) (parts':List (Nat×Value)) (cells:List ze) (cells':Array Value) (r:List ze),
    parts.length=parts'.length->(∀ (i:Nat) p p',parts[i]?=some p->parts'[i]?=some p'->p.1=p'.1/\zaa ρ p.2 p'.2)->zcd ρ cells cells'.toList ->
    afill place cells parts=some r->∃ r',Instr.fill place cells' parts'=some r'/\zcd ρ r r'.toList
  | [],parts',cells,cells',r,hlen,_,hc,h=>by
    have:parts'=[]:=List.eq_nil_of_length_eq_zero hlen.symm;subst this;simp only [afill] at h;cases h;exact ⟨cells',rfl,hc⟩
  | (i,v)::rest,parts',cells,cells',r,hlen,hp,hc,h=>by
    cases parts' with
    | nil=>simp at hlen
    | cons p' rest'=>
      obtain ⟨i',v'⟩:=p';obtain ⟨h1,h3⟩:=hp 0 (i,v) (i',v') rfl rfl;simp only at h1 h3;subst h1;simp only [afill] at h;split at h
      · cases h
      rename_i off size hpl;split at h
      case isFalse=>cases h
      rename_i hc2;have h2:v≠.undef:=by rintro rfl; simp [ze.defd] at hc2
      have hv:=h3.cells h2;have hvl:=hv.1;have hcl:=hc.1;simp only [Array.length_toList] at hvl hcl;have hfold:zcd ρ (splice cells off v.cells) (v'.cells.zipIdx.foldl (λcs (x:Value×Nat)=>cs.setIfInBounds (off+x.2) x.1) cells').toList:=by
        have e:(v'.cells.zipIdx.foldl (λcs (x:Value×Nat)=>cs.setIfInBounds (off+x.2) x.1) cells').toList=cells'.toList.take off++v'.cells.toList++cells'.toList.drop (off+v'.cells.size):=by
          rw [← Array.foldl_toList,Array.toList_zipIdx];have:=zpc off v'.cells.toList 0 cells' (by simp; omega);simpa using this
        rw [e];unfold splice;rw [hvl];exact ((hc.take off).append hv).append (hc.drop _)
      obtain ⟨r',hr',hrr⟩:=zje place rest rest' (splice cells off v.cells) _ r (by simpa using hlen) (λj p p' a b=>hp (j+1) p p' (by simpa using a) (by simpa using b)) hfold h;refine ⟨r', ?_,hrr⟩;simp only [Instr.fill,hpl];rw [if_neg (by simp; omega)];exact hr'
theorem zkX {ev:Operand->ze} {cev:Operand->Value} (hev:∀ x,zaa ρ (ev x) (cev x)) (parts:Array (Nat×Operand)) :
    (zcY ev parts.toList).length=(parts.map λ(i,x)=>(i,cev x)).toList.length /\
    ∀ (i:Nat) p p',(zcY ev parts.toList)[i]?=some p->((parts.map λ(i,x)=>(i,cev x)).toList)[i]?=some p'->p.1=p'.1/\zaa ρ p.2 p'.2:=by
  refine ⟨by simp [zcY],λi p p' hp hp'=>?_⟩;simp only [zcY,List.getElem?_map,Array.toList_map] at hp hp';cases hq:parts.toList[i]? with
  | none=>rw [hq] at hp; cases hp
  | some q=>
    rw [hq] at hp hp';simp only [Option.map_some,Option.some.injEq] at hp hp';subst hp hp';exact ⟨rfl,hev q.2⟩
theorem zkY (ok:T.Ok P):∀ (fs:List Field) (pl:List (Nat×Nat)),aplaces T fs=some pl->∀ w:World,(fs.mapM (λf=>do pure (f.offset,← sizeOf f.type):Field->Sem (Nat×Nat))).run P w=.ok pl w
 | [],pl,h,w=>by simp [aplaces] at h; subst h; rfl
 | f::fs,pl,h,w=>by
  simp only [aplaces] at h;cases hn:szT T f.type with
  | none=>rw [hn] at h; cases h
  | some n=>
   cases hl:aplaces T fs with
   | none=>rw [hn,hl] at h; cases h
   | some l=>
    rw [hn,hl] at h;cases h;obtain ⟨j,hj,hjs⟩:=ok.size hn;have ih:=zkY ok fs l hl w;rw [List.mapM_cons];simp only [Sem.run_bind,z9 hj,Result.andThen_ok,Sem.run_pure,hjs];rw [ih];rfl
include ok in
theorem ztz {t:TypeId} {v:ze} {ev:Operand->ze} {cev:Operand->Value} (hev:∀ x,zaa ρ (ev x) (cev x)) (parts:Array (Nat×Operand))
    (hl:abuild T t (zcY ev parts.toList)=some v):∃ v',(Instr.build t (parts.map λ(i,x)=>(i,cev x))).run P w=.ok v' w/\zaa ρ v v':=by
  obtain ⟨e1,e2⟩:=zkX hev parts;unfold abuild at hl;split at hl
  case h_2=>cases hl
  rename_i z hz;obtain ⟨j,zv,hj,hjz,hzv⟩:=ok.zero hz;have hzr:=zez ρ zv z hzv;have hzu:z≠.undef:=by
    rintro rfl
    unfold zhe at hzv;split at hzv
    · cases hc:zgr (_:List Value) with
      | none=>rw [hc] at hzv; cases hzv
      | some xs=>rw [hc] at hzv; cases hzv
    · unfold zkS at hzv;split at hzv<;>first | (cases hzv; done) | (split at hzv<;>cases hzv)
  have hzc:=hzr.cells hzu;split at hl
  · rename_i fields hf;split at hl
    case h_2=>cases hl
    rename_i places hp;cases hfill:afill (λi=>places[i]?) z.cells (zcY ev parts.toList) with
    | none=>rw [hfill] at hl; cases hl
    | some r=>
      rw [hfill] at hl;cases hl;obtain ⟨r',hr',hrr⟩:=zje (λi=>places[i]?) _ _ _ _ r e1 e2 hzc hfill;refine ⟨.agg r', ?_,by have:=zaa.agg' hrr; simpa using this⟩;have hm:=zkY ok fields.toList places hp w;have hm':(fields.mapM (λf=>do pure (f.offset,← sizeOf f.type):Field->Sem (Nat×Nat))).run P w=.ok places.toArray w:=by
        rw [Array.mapM_eq_mapM_toList];simp only [Sem.run_map,hm,Result.andThen_ok]
      simp only [Instr.build,Sem.run_bind,zds hj hjz,Result.andThen_ok,zi (ok.und hf),hm'];have e3:(λ(x:Nat)=>places.toArray[x]?)=(λ(i:Nat)=>places[i]?):=by funext x; simp
      rw [e3];simp only [hr',Sem.run_pure]
  · rename_i len elem hf;split at hl
    case h_2=>cases hl
    rename_i n hn;cases hfill:afill (λi=>some (i*n,n)) z.cells (zcY ev parts.toList) with
    | none=>rw [hfill] at hl; cases hl
    | some r=>
      rw [hfill] at hl;cases hl;obtain ⟨r',hr',hrr⟩:=zje (λi=>some (i*n,n)) _ _ _ _ r e1 e2 hzc hfill;refine ⟨.agg r', ?_,by have:=zaa.agg' hrr; simpa using this⟩;obtain ⟨j',hj',hjs⟩:=ok.size hn;simp only [Instr.build,Sem.run_bind,zds hj hjz,Result.andThen_ok,zi (ok.und hf),z9 hj',hjs,hr',Sem.run_pure]
  · cases hl
end
end Go.Ai
/- An abstract interpreter for the model's code: new rows,slices,append,copy. -/
namespace Go.Ai
section
variable {T:Tab} {P:Program} (ok:T.Ok P) {base:Nat} {ρ:Emb} {h:za} {w:World}
theorem zgQ {v:Value} {z:ze} (h:zhe v=some z):z≠.undef:=by
 rintro rfl
 unfold zhe at h;split at h
 . cases hc:zgr (_:List Value) with
   | none=>rw [hc] at h; cases h
   | some xs=>rw [hc] at h; cases h
 . unfold zkS at h;split at h<;>first | (cases h; done) | (split at h<;>cases h)
theorem zfJ {cells:List ze} {cc:Array Value} (hr:H0 base ρ h w) (hn:ρ h.next=none) (hc:zcd ρ cells (cc.toList.take cells.length)) (hlen:cells.length<=cc.size) (el:TypeId) (w':World)
 (hw:w'.heap=w.heap.push (.cells cc el)) (h1:w'.os=w.os) (h2:w'.tape=w.tape) (h3:w'.output=w.output) :
 H0 base (ρ.add h.next ⟨w.heap.size,0,cc.size⟩) (h.push (.arr cells false)) w'/\Trans ρ h w (ρ.add h.next ⟨w.heap.size,0,cc.size⟩) (h.push (.arr cells false)) w':=by
 refine zlB hr hn (.arr cells false) (.cells cc el) w' cc.size hw h1 h2 h3 ?_;refine ⟨cc,el,(0,0),by rw [hw]; simp,rfl,by simp; exact hlen, ?_,λ_=>⟨rfl,hr.base⟩⟩;intro i v hv;obtain ⟨v',hv',hvv⟩:=hc.at hv;have hi:i<cells.length:=(List.getElem?_eq_some_iff.1 hv).1;rw [List.getElem?_take,if_pos hi,Array.getElem?_toList] at hv';exact ⟨v',by simpa using hv',hvv.mono (.add hn)⟩
theorem zpd {l:List Value} {n:Nat} (h:l.length<=n):l.take n=l:=List.take_of_length_le h
include ok in
theorem zkZ {elem:TypeId} {len n:Nat} {cap:Option Nat} {v:ze} {h':za} {parts:List (Nat×ze)} {parts':List (Nat×Value)} (hr:H0 base ρ h w) (hn:h'.next≠h.next->ρ h.next=none)
    (e1:parts.length=parts'.length) (e2:∀ (i:Nat) p p',parts[i]?=some p->parts'[i]?=some p'->p.1=p'.1/\zaa ρ p.2 p'.2) (hcap:cap=some n) (hln:len<=n)
    (hl:zcM T elem len cap n h parts=some (v,h')) :
    ∃ j zv r',P.info? elem=some j/\j.zero=some zv/\0<j.size/\zv.cells.size=j.size/\Instr.fill (λi=>some (i*j.size,j.size)) ((Array.range (n*j.size)).map (λi=>zv.cells[i%zv.cells.size]!)) parts'=some r' /\
      ∀ w':World,w'.heap=w.heap.push (.cells r' elem)->w'.os=w.os->w'.tape=w.tape->w'.output=w.output ->
        zaa (ρ.add h.next ⟨w.heap.size,0,r'.size⟩) v (.slice (some ⟨w.heap.size,0,none⟩) len n)/\H0 base (ρ.add h.next ⟨w.heap.size,0,r'.size⟩) h' w'/\Trans ρ h w (ρ.add h.next ⟨w.heap.size,0,r'.size⟩) h' w':=by
  unfold zcM at hl;split at hl
  case h_2=>cases hl
  rename_i sz hsz;split at hl
  · cases hl
  rename_i hsz0;split at hl
  case h_2=>cases hl
  rename_i z hz;split at hl
  case isFalse=>cases hl
  rename_i hzl;split at hl
  case h_2=>cases hl
  rename_i cells hfill;cases hl;obtain ⟨j,hj,hjs⟩:=ok.size hsz;obtain ⟨j2,zv,hj2,hjz,hzv⟩:=ok.zero hz;rw [hj] at hj2; cases hj2;have hzc:=(zez ρ zv z hzv).cells (zgQ hzv);have hzsz:zv.cells.size=sz:=by have:=hzc.1; simp at this; omega
  have hcop:=zkW hzc (by omega) n;rw [hzl] at hcop;obtain ⟨r',hr',hrr⟩:=zje (λi=>some (i*sz,sz)) parts parts' (copies n z.cells) _ cells e1 e2 hcop hfill;subst hjs;refine ⟨j,zv,r',hj,hjz,by omega,hzsz,hr',λw' hw h1 h2 h3=>?_⟩;have hlr:cells.length=r'.size:=by rw [hrr.1]; simp
  have hrel:zcd ρ cells (r'.toList.take cells.length):=by
    rw [zpd (by simp [hlr])]; exact hrr
  obtain ⟨a,b⟩:=zfJ hr (hn (by simp [za.next_push])) hrel (by omega) elem w' hw h1 h2 h3;have hsize:r'.size=n*j.size:=by
    have hle:∀ (ps:List (Nat×ze)) (c r:List ze),afill (λi=>some (i*j.size,j.size)) c ps=some r->r.length=c.length:=by
      intro ps;induction ps with
      | nil=>intro c r hh; simp [afill] at hh; rw [hh]
      | cons p ps ih=>
        intro c r hh;obtain ⟨pi,pv⟩:=p;simp only [afill] at hh;split at hh
        case isFalse=>cases hh
        rename_i hc;rw [ih _ _ hh,zf3 (by omega)]
    rw [← hlr,hle _ _ _ hfill,zdT,hzl]
  refine ⟨.slice h.next 0 len j.size cap ⟨w.heap.size,0,r'.size⟩ _ n (Emb.add_same _ _ _) hln (λk hk=>?_) (.inr ⟨rfl,by simp [hsize]⟩),a,b⟩;rw [hcap] at hk; cases hk; rfl
include ok in
theorem zlE {t:TypeId} {len:Nat} {v:ze} {h':za} {ev:Operand->ze} {cev:Operand->Value} (hr:H0 base ρ h w) (hn:h'.next≠h.next->ρ h.next=none) (hev:∀ x,zaa ρ (ev x) (cev x)) (parts:Array (Nat×Operand))
 (hl:zdG T t len (zcY ev parts.toList) h=some (v,h')):VOk P base ρ h w (Instr.buildSlice t len (parts.map λ(i,x)=>(i,cev x))) v h':=by
 obtain ⟨e1,e2⟩:=zkX hev parts;unfold zdG at hl;split at hl
 case h_2=>cases hl
 rename_i elem hu;split at hl
 . cases hl
 rename_i hbig;obtain ⟨j,zv,r',hj,hjz,h0,hzs,hfill,hend⟩:=zkZ ok hr hn e1 e2 rfl (Nat.le_refl _) hl;have hsz:szT T elem=some j.size:=by
  unfold zcM at hl;split at hl
  . rename_i sz hsz;obtain ⟨j',hj',hjs'⟩:=ok.size hsz;rw [hj] at hj'; cases hj';rw [hsz,hjs']
  . cases hl
 rw [hsz] at hbig;simp only [Option.getD_some] at hbig;obtain ⟨a,b,c⟩:=hend (w.alloc (.cells r' elem)) rfl rfl rfl rfl;refine ⟨_,w.alloc (.cells r' elem),_, ?_,a,b,c⟩;simp only [Instr.buildSlice,Sem.run_bind,zi (ok.und hu),Result.andThen_ok,z9 hj,Sem.run_ite,if_neg hbig];by_cases hz0:len*j.size=0
 . simp only [if_pos hz0,Sem.run_pure,Result.andThen_ok];have e:((Array.range (len*j.size)).map (λi=>(#[]:Array Value)[i%(#[]:Array Value).size]!))=((Array.range (len*j.size)).map (λi=>zv.cells[i%zv.cells.size]!)):=by
    rw [hz0]; simp
   rw [e,hfill];simp only [newRow,Sem.run_bind,run_newObj,Result.andThen_ok,Sem.run_pure];rfl
 . simp only [if_neg hz0,Sem.run_bind,zds hj hjz,Result.andThen_ok,Sem.run_pure];rw [hfill];simp only [newRow,Sem.run_bind,run_newObj,Result.andThen_ok,Sem.run_pure];rfl
include ok in
theorem zmM {t:TypeId} {l c v:ze} {l' c':Value} {h':za} (hr:H0 base ρ h w) (hn:h'.next≠h.next->ρ h.next=none) (hx:zaa ρ l l') (hy:zaa ρ c c') (hl:zef T t l c h=some (v,h')):VOk P base ρ h w (Instr.makeSlice t l' c') v h':=by
 unfold zef at hl;split at hl
 case h_2=>cases hl
 rename_i elem l c hu;cases hx; cases hy;split at hl
 case h_2=>cases hl
 rename_i i hi;split at hl
 case isFalse=>cases hl
 rename_i hc;obtain ⟨h0,hlc,hb,hm⟩:=hc;obtain ⟨j,zv,r',hj,hjz,hs0,hzs,hfill,hend⟩:=zkZ (parts':=[]) ok hr hn rfl (by simp) rfl (by omega) hl;obtain ⟨_,j2,hj2,_,hby,_⟩:=ok.types elem i hi;rw [hj] at hj2; cases hj2;have hrun:=run_make (P:=P) w t elem j zv (ok.und hu) hj hjz .i64 .i64 l c h0 hlc (by rw [hby]; omega) (by omega);simp only [Instr.fill,Option.some.injEq] at hfill;obtain ⟨a,b,d⟩:=hend (w.alloc (.cells r' elem)) rfl rfl rfl rfl;refine ⟨_,w.alloc (.cells r' elem),_, ?_,a,b,d⟩;rw [hrun,← hfill];rfl
def zyk (ρ:Emb) (x:Option ze) (x':Option Value):Prop:=(x=none/\x'=none)\/∃ v v',x=some v/\x'=some v'/\zaa ρ v v'
theorem zbL {x:Option ze} {x':Option Value} {dflt top n:Nat} (hx:zyk ρ x x') (hl:abound x dflt top=some n) :
 (x'=none/\x=none/\n=dflt)\/(∃ v',x'=some v'/\x.isSome=true/\n<=top/\∀ top' code,n<=top'->(Instr.sliceBound v' top' code).run P w=.ok n w):=by
 unfold abound at hl;rcases hx with ⟨rfl,rfl⟩ | ⟨v,v',rfl,rfl,hr⟩
 . simp at hl; exact .inl ⟨rfl,rfl,hl.symm⟩
 . cases hr;all_goals (try (simp at hl; done))
   rename_i k i;dsimp only at hl;split at hl
   case isFalse=>cases hl
   rename_i hb;cases hl;refine .inr ⟨_,rfl,rfl,by omega,λtop' code ht=>?_⟩;have h1:(0<=i/\i<=(top':Int)):=⟨hb.1,by omega⟩;simp [Instr.sliceBound,asIntOf,h1]
theorem zgR {isSlice:Bool} {len cap l hi m:Nat} {lo' hi' mx':Option Value}
 (hm:(mx'=none/\m=cap)\/∃ v,mx'=some v/\∀ code,(Instr.sliceBound v cap code).run P w=.ok m w)
 (hh:(hi'=none/\mx'=none/\hi=len)\/∃ v,hi'=some v/\∀ code,(Instr.sliceBound v m code).run P w=.ok hi w)
 (hl:(lo'=none/\l=0)\/∃ v,lo'=some v/\∀ code,(Instr.sliceBound v hi code).run P w=.ok l w) :
 (Instr.sliceBounds isSlice len cap lo' hi' mx').run P w=.ok (l,hi,m) w:=by
 rcases hm with ⟨rfl,rfl⟩ | ⟨vm,rfl,hm⟩<;>rcases hh with ⟨rfl,hx,rfl⟩ | ⟨vh,rfl,hh⟩<;>rcases hl with ⟨rfl,rfl⟩ | ⟨vl,rfl,hl⟩;all_goals (try (cases hx; done))
 all_goals simp [Instr.sliceBounds, *]
theorem zmN {b off len es:Nat} {cap:Option Nat} {x':Value} (hx:zaa ρ (.slice b off len es cap) x') {l hi m:Nat} {cap2:Option Nat}
 (hlh:l<=hi) (hhm:hi<=m) (hm:∀ (a:Addr) (ccap:Nat),x'=.slice (some a) len ccap->m<=ccap) (hc:∀ k,cap2=some k->m-l=k) :
 ∃ a ccap,x'=.slice (some a) len ccap /\
  zaa ρ (.slice b (off+l*es) (hi-l) es cap2) (.slice (if m=l then (some a:Option Addr) else (some (a:Addr)).map (λa=>a.add (l*es))) (hi-l) (m-l)):=by
 cases hx with
 | slice _ _ _ _ _ lc a ccap hb hlen hcap hoff=>
 have hmc:=hm a ccap rfl;refine ⟨a,ccap,rfl, ?_⟩;by_cases he:m=l
 . rw [if_pos he];exact .slice b _ _ _ _ lc a (m-l) hb (by omega) hc (.inl (by omega))
 . rw [if_neg he];rcases hoff with h0 | ⟨rfl,h2⟩
   . omega
   . simp only [Option.map_some,Addr.add_lit];refine .slice b _ _ _ _ lc _ (m-l) hb (by omega) hc (.inr ⟨by rw [Nat.add_assoc], ?_⟩);have h3:l*es+(m-l)*es=m*es:=by rw [← Nat.add_mul]; congr 1; omega
     have h4:m*es<=ccap*es:=Nat.mul_le_mul_right _ hmc;omega
include ok in
theorem ztA {t:TypeId} {x v:ze} {x':Value} {lo hi mx:Option ze} {lo' hi' mx':Option Value} (hx:zaa ρ x x') (hlo:zyk ρ lo lo') (hhi:zyk ρ hi hi') (hmx:zyk ρ mx mx')
 (hl:aslice T t x lo hi mx=some v):∃ v',(Instr.sliceAt t x' lo' hi' mx').run P w=.ok v' w/\zaa ρ v v':=by
 unfold aslice at hl;split at hl
 . rename_i elem b off len es cap hu;split at hl
   case isFalse=>cases hl
   rename_i hes;obtain ⟨hsz,h0⟩:=hes;obtain ⟨j,hj,hjs⟩:=ok.size hsz
   -- the end,once the three bounds are known
   have fin:∀ (l hh m:Nat) (cap2:Option Nat),l<=hh->hh<=m->(∀ (a:Addr) (ccap:Nat),x'=.slice (some a) len ccap->m<=ccap/\(Instr.sliceBounds true len ccap lo' hi' mx').run P w=.ok (l,hh,m) w) ->
    (∀ k,cap2=some k->m-l=k)->v=.slice b (off+l*es) (hh-l) es cap2->∃ v',(Instr.sliceAt t x' lo' hi' mx').run P w=.ok v' w/\zaa ρ v v':=by
    intro l hh m cap2 h1 h2 h3 h4 hv;obtain ⟨a,ccap,hx',hrel⟩:=zmN hx h1 h2 (λa b d=>(h3 a b d).1) h4;subst hv;refine ⟨_, ?_,hrel⟩;have h5:=(h3 a ccap hx').2;subst hx';simp only [Instr.sliceAt,Sem.run_bind,zi (ok.und hu),Result.andThen_ok,Instr.slice,h5,z9 hj,hjs,Sem.run_pure]
   split at hl
   . -- cap unknown,no max
     split at hl
     case h_2=>cases hl
     rename_i hh hbh;split at hl
     case h_2=>cases hl
     rename_i l hbl;cases hl;rcases hmx with ⟨_,rfl⟩ | ⟨_,_,hq,_⟩
     case inr=>cases hq
     cases hx with
     | slice _ _ _ _ _ lc a ccap hb hlen hcap hoff=>
     have hhlen:hh<=len:=by
      rcases zbL (P:=P) (w:=w) hhi hbh with ⟨_,_,e⟩ | ⟨_,_,_,e,_⟩<;>omega
     have hllen:l<=hh:=by
      rcases zbL (P:=P) (w:=w) hlo hbl with ⟨_,_,e⟩ | ⟨_,_,_,e,_⟩<;>omega
     have hrel:zaa ρ (.slice b (off+l*es) (hh-l) es none) (.slice (if ccap=l then (some a:Option Addr) else (some (a:Addr)).map (λa=>a.add (l*es))) (hh-l) (ccap-l)):=by
      obtain ⟨a2,ccap2,he,hr⟩:=zmN (m:=ccap) (cap2:=none) (.slice b off len es none lc a ccap hb hlen hcap hoff) hllen (by omega) (λ_ _ e=>by cases e; exact Nat.le_refl _) (λk hk=>by cases hk);cases he;exact hr
     refine ⟨_, ?_,hrel⟩;have hrun:(Instr.sliceBounds true len ccap lo' hi' none).run P w=.ok (l,hh,ccap) w:=by
      refine zgR (.inl ⟨rfl,rfl⟩) ?_ ?_
      . rcases zbL (P:=P) (w:=w) hhi hbh with ⟨e1,_,e2⟩ | ⟨v',e1,_,_,e2⟩
        . exact .inl ⟨e1,rfl,e2⟩
        . exact .inr ⟨v',e1,λcode=>e2 ccap code (by omega)⟩
      . rcases zbL (P:=P) (w:=w) hlo hbl with ⟨e1,_,e2⟩ | ⟨v',e1,_,_,e2⟩
        . exact .inl ⟨e1,e2⟩
        . exact .inr ⟨v',e1,λcode=>e2 hh code hllen⟩
     simp only [Instr.sliceAt,Sem.run_bind,zi (ok.und hu),Result.andThen_ok,Instr.slice,hrun,z9 hj,hjs,Sem.run_pure]
   . -- cap unknown,a max
     rename_i m0;split at hl
     case h_2=>cases hl
     rename_i m' hbm;split at hl
     case h_2=>split at hl<;>cases hl
     rename_i hi0;split at hl
     case h_2=>cases hl
     rename_i hh hbh;split at hl
     case h_2=>cases hl
     rename_i l hbl;cases hl;rcases zbL (P:=P) (w:=w) hmx hbm with ⟨_,e,_⟩ | ⟨vm,em,_,hml,hmr⟩
     . cases e
     rcases zbL (P:=P) (w:=w) hhi hbh with ⟨_,e,_⟩ | ⟨vh,eh,_,hhm,hhr⟩
     . cases e
     have hllen:l<=hh:=by
      rcases zbL (P:=P) (w:=w) hlo hbl with ⟨_,_,e⟩ | ⟨_,_,_,e,_⟩<;>omega
     refine fin l hh m' (some (m'-l)) hllen hhm (λa ccap hx'=>?_) (λk hk=>by cases hk; rfl) rfl;have hlc:len<=ccap:=by
      rw [hx'] at hx;cases hx with
      | slice _ _ _ _ _ lc a ccap hb hlen hcap hoff=>exact hlen
     refine ⟨by omega,zgR (.inr ⟨vm,em,λcode=>hmr ccap code (by omega)⟩) (.inr ⟨vh,eh,λcode=>hhr m' code hhm⟩) ?_⟩;rcases zbL (P:=P) (w:=w) hlo hbl with ⟨e1,_,e2⟩ | ⟨v',e1,_,_,e2⟩
     . exact .inl ⟨e1,e2⟩
     . exact .inr ⟨v',e1,λcode=>e2 hh code hllen⟩
   . -- cap known
     rename_i c;split at hl
     case h_2=>cases hl
     rename_i m' hbm;split at hl
     case h_2=>cases hl
     rename_i hh hbh;split at hl
     case h_2=>cases hl
     rename_i l hbl;cases hl;split at hbh
     . cases hbh
     rename_i hmh;have hmc:m'<=c:=by
      rcases zbL (P:=P) (w:=w) hmx hbm with ⟨_,_,e⟩ | ⟨_,_,_,e,_⟩<;>omega
     have hllen:l<=hh:=by
      rcases zbL (P:=P) (w:=w) hlo hbl with ⟨_,_,e⟩ | ⟨_,_,_,e,_⟩<;>omega
     have hcc:∀ (a:Addr) (ccap:Nat),x'=.slice (some a) len ccap->ccap=c/\len<=ccap:=by
      intro a ccap hx';rw [hx'] at hx;cases hx with
      | slice _ _ _ _ _ lc a ccap hb hlen hcap hoff=>exact ⟨hcap _ rfl,hlen⟩
     have hx2:=hx;cases hx2 with
     | slice _ _ _ _ _ lc0 off0 ccap0 hb0 hlen0 hcap0 hoff0=>
     have hlc:len<=c:=by have:=hcap0 c rfl; omega
     have hhm:hh<=m':=by
      rcases zbL (P:=P) (w:=w) hhi hbh with ⟨_,e0,e⟩ | ⟨_,_,_,e,_⟩
      . rcases zbL (P:=P) (w:=w) hmx hbm with ⟨_,_,e'⟩ | ⟨_,_,e',_⟩
        . omega
        . simp [e',e0] at hmh
      . exact e
     refine fin l hh m' (some (m'-l)) hllen hhm (λa ccap hx'=>?_) (λk hk=>by cases hk; rfl) rfl;obtain ⟨e1,_⟩:=hcc a ccap hx';subst e1;refine ⟨hmc,zgR ?_ ?_ ?_⟩
     . rcases zbL (P:=P) (w:=w) hmx hbm with ⟨e1,_,e2⟩ | ⟨v',e1,_,_,e2⟩
       . exact .inl ⟨e1,e2⟩
       . exact .inr ⟨v',e1,λcode=>e2 _ code hmc⟩
     . rcases zbL (P:=P) (w:=w) hhi hbh with ⟨e1,e0,e2⟩ | ⟨v',e1,_,_,e2⟩
       . left;refine ⟨e1, ?_,e2⟩;rcases zbL (P:=P) (w:=w) hmx hbm with ⟨e3,_,_⟩ | ⟨_,_,e',_⟩
         . exact e3
         . simp [e',e0] at hmh
       . exact .inr ⟨v',e1,λcode=>e2 _ code hhm⟩
     . rcases zbL (P:=P) (w:=w) hlo hbl with ⟨e1,_,e2⟩ | ⟨v',e1,_,_,e2⟩
       . exact .inl ⟨e1,e2⟩
       . exact .inr ⟨v',e1,λcode=>e2 hh code hllen⟩
 . rename_i elem hu;cases hx;split at hl
   case h_2=>cases hl
   rename_i n hh l hn hbh hbl;cases hl;obtain ⟨j,hinf,_⟩:=ok.size hn;rcases hmx with ⟨_,rfl⟩ | ⟨_,_,hq,_⟩
   case inr=>cases hq
   have hh0:hh=0:=by rcases zbL (P:=P) (w:=w) hhi hbh with ⟨_,_,e⟩ | ⟨_,_,_,e,_⟩<;>omega
   have hl0:l=0:=by rcases zbL (P:=P) (w:=w) hlo hbl with ⟨_,_,e⟩ | ⟨_,_,_,e,_⟩<;>omega
   subst hh0 hl0;have hrun:(Instr.sliceBounds true 0 0 lo' hi' none).run P w=.ok (0,0,0) w:=by
    refine zgR (.inl ⟨rfl,rfl⟩) ?_ ?_
    . rcases zbL (P:=P) (w:=w) hhi hbh with ⟨e1,_,e2⟩ | ⟨v',e1,_,_,e2⟩
      . exact .inl ⟨e1,rfl,rfl⟩
      . exact .inr ⟨v',e1,λcode=>e2 0 code (by omega)⟩
    . rcases zbL (P:=P) (w:=w) hlo hbl with ⟨e1,_,e2⟩ | ⟨v',e1,_,_,e2⟩
      . exact .inl ⟨e1,rfl⟩
      . exact .inr ⟨v',e1,λcode=>e2 0 code (by omega)⟩
   refine ⟨.slice none 0 0, ?_,.nilslice⟩;simp only [Instr.sliceAt,Sem.run_bind,zi (ok.und hu),Result.andThen_ok,Instr.slice,hrun,z9 hinf,Sem.run_pure];simp
 . cases hl
end
end Go.Ai