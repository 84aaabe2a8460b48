/- An abstract interpreter for the model's code: definitions. No theorem of a law stands here. -/
import Derived.KernelRfl
import GoSem.Step
import GoSem.Core.Float
import GoSem.Dispatch
import Derived.Calls
import Derived.Laws.CopyRow
import Derived.Laws.Append
import Derived.Laws.AppendOwn
import Derived.Laws.Rows
import Derived.Laws.MakeOwn
import Derived.Laws.StructEq
import Derived.Laws.Build
set_option linter.unusedSimpArgs false
set_option linter.unusedVariables false
set_option linter.unusedSectionVars false
open Option renaming some→Ob,none→Oe
open Bool renaming false→Oc,true→Od
namespace Go.Ai
def FQ (d:TypeDesc):Array Field:=match d with | .struct fs=>fs | _=>#[]
abbrev _root_.Prod.d3 {A0 A1 A2 A3:Type} (x:A0×A1×A2×A3):=x.2.2.2
abbrev _root_.Prod.d4 {A0 A1 A2 A3 A4:Type} (x:A0×A1×A2×A3×A4):=x.2.2.2.2
abbrev _root_.Prod.d5 {A0 A1 A2 A3 A4 A5:Type} (x:A0×A1×A2×A3×A4×A5):=x.2.2.2.2.2
abbrev _root_.Prod.d6 {A0 A1 A2 A3 A4 A5 A6:Type} (x:A0×A1×A2×A3×A4×A5×A6):=x.2.2.2.2.2.2
abbrev _root_.Prod.d7 {A0 A1 A2 A3 A4 A5 A6 A7:Type} (x:A0×A1×A2×A3×A4×A5×A6×A7):=x.2.2.2.2.2.2.2
abbrev _root_.Prod.d8 {A0 A1 A2 A3 A4 A5 A6 A7 A8:Type} (x:A0×A1×A2×A3×A4×A5×A6×A7×A8):=x.2.2.2.2.2.2.2.2
abbrev _root_.Prod.d9 {A0 A1 A2 A3 A4 A5 A6 A7 A8 A9:Type} (x:A0×A1×A2×A3×A4×A5×A6×A7×A8×A9):=x.2.2.2.2.2.2.2.2.2
theorem J {p:Prop} (h:p:=by omega):p:=h
theorem On {p:Prop} (h:p:=by simp only [List.length_append]; omega):p:=h
theorem Om {p:Prop} (h:p:=by rfl):p:=h
theorem Ol {p:Prop} (h:p:=by simp):p:=h
theorem Oj {p:Prop} (h:p:=by simp; omega):p:=h
theorem Oi {p:Prop} (h:p:=by simp [Op.operands]):p:=h
theorem Oh {p:Prop} (h:p:=by rw [Int.mul_assoc]; omega):p:=h
theorem Og {p:Prop} (h:p:=by exact Nat.le_of_ble_eq_true rfl):p:=h
theorem Z {p:Prop} (h:p:=by kernel_rfl):p:=h
theorem Oa {p:Prop} (h:p:=by decide):p:=h
inductive zd where
 | undef
 | bool (b:Bool)
 | int (k:IntKind) (n:Int)
 | float (k:FloatKind) (bits:Nat)
 | str (s:ByteArray)
 | ptr (b off:Nat)
 | nq
 | slice (b off len es:Nat) (cap:Option Nat)
 | nsz
 | map (r:Nat)
 | nm
 | func (fn:Fn) (first captured:List zd)
 | nfz
 | iface (t:TypeId) (v:zd)
 | ni
 | agg (cs:List zd)
 | tuple (vs:List zd)
 deriving Inhabited
def zd.cells:zd->List zd
 | .agg cs=>cs
 | v=>[v]
def zd.one:zd->Bool
 | .undef | .agg _ | .tuple _=>Oc
 | _=>Od
def zd.defd:zd->Bool
 | .undef=>Oc
 | _=>Od
inductive Tr (α:Type) where
 | leaf
 | node (v:Option α) (l r:Tr α)
def Tr.get {α:Type}:Tr α->Nat->Option α
 | .leaf,_=>Oe
 | .node v l r,n=>
  match n with
  | 0=>v
  | m+1=>bif Nat.beq (Nat.mod m 2) 0 then l.get (Nat.div m 2) else r.get (Nat.div m 2)
def Tr.put {α:Type}:Nat->Tr α->Nat->α->Tr α
 | 0,t,_,_=>t
 | k+1,.leaf,n,x=>
  match n with
  | 0=>.node (Ob x) .leaf .leaf
  | m+1=>bif Nat.beq (Nat.mod m 2) 0 then .node Oe (Tr.put k .leaf (Nat.div m 2) x) .leaf else .node Oe .leaf (Tr.put k .leaf (Nat.div m 2) x)
 | k+1,.node v l r,n,x=>
  match n with
  | 0=>.node (Ob x) l r
  | m+1=>bif Nat.beq (Nat.mod m 2) 0 then .node v (Tr.put k l (Nat.div m 2) x) r else .node v l (Tr.put k r (Nat.div m 2) x)
def Tr.set {α:Type} (t:Tr α) (n:Nat) (x:α):Tr α:=Tr.put (n+1) t n x
abbrev zi:=Tr zd
def zi.ev (fr:zi) (t:Nat):zd:=(Tr.get fr t).getD .undef
structure zh7 where
 state:LoopState
 pending:Option Code
 fr:zi
 params:List Nat
 assign:Code
 body:Code
inductive zfS where
 | arr (cells:List zd) (ro:Bool)
 | mp (es:List (zd×zd))
 | loop (l:zh7)
 | dead
structure za where
 m:Tr zfS
 next:Nat
 wm:Nat
def za.get (h:za) (b:Nat):Option zfS:=h.m.get b
def za.set (h:za) (b:Nat) (x:zfS):za:={ m:=h.m.set b x,next:=h.next,wm:=min h.wm b }
def za.push (h:za) (x:zfS):za:={ m:=h.m.set h.next x,next:=h.next+1,wm:=h.wm }
def zll:Value->Option zd
 | .bool b=>Ob (.bool b)
 | .int k n=>Ob (.int k n)
 | .float k b=>Ob (.float k b)
 | .string s=>Ob (.str s)
 | .pointer Oe=>Ob .nq
 | .slice Oe l c=>if l=0/\c=0 then Ob .nsz else Oe
 | .map Oe=>Ob .nm
 | .nilFunc=>Ob .nfz
 | .nilIface=>Ob .ni
 | .func (.func f) first captured=>if first.size=0/\captured.size=0 then Ob (.func (.func f) [] []) else Oe
 | _=>Oe
def zgV:List Value->Option (List zd)
 | []=>Ob []
 | v::vs=>match zll v,zgV vs with
  | some x,Ob xs=>Ob (x::xs)
  | _,_=>Oe
def zhM:Value->Option zd
 | .agg cs=>(zgV cs.toList).map .agg
 | v=>zll v
def zi.op (fr:zi):Operand->zd
 | .tmp t=>fr.ev t
 | .const v=>(zhM v).getD .undef
 | .global _=>.undef
 | .func f=>.func (.func f) [] []
structure zro where
 desc:TypeDesc
 size:Nat
 bytes:Nat
 zero:Option zd
 stood:Bool
 eqg:Bool
structure Tab where
 types:Tr zro
 funcs:Tr Func
 consts:Tr (List zd->Option zd):=.leaf
def Tab.und (T:Tab) (t:Nat):Option TypeDesc:=
 match T.types.get t with
 | some i=>Ob i.desc
 | none=>Oe
def zeb (T:Tab) (t:TypeId):Option Bool:=
 match T.und t with
 | some (.struct _)=>Ob Od
 | some (.array _ _)=>Ob Od
 | some _=>Ob Oc
 | none=>Oe
def szT (T:Tab) (t:TypeId):Option Nat:=
 match T.types.get t with
 | some i=>Ob i.size
 | none=>Oe
def zeS (T:Tab) (t:TypeId):Option zd:=
 match T.types.get t with
 | some i=>i.zero
 | none=>Oe
def splice (cells:List zd) (off:Nat) (vs:List zd):List zd:=
 cells.take off++vs++cells.drop (off+vs.length)
def copies:Nat->List zd->List zd
 | 0,_=>[]
 | n+1,z=>z++copies n z
def apart (T:Tab) (t:TypeId) (cs:List zd) (off:Nat):Option zd:=
 match zeb T t with
 | some Od=>match szT T t with
  | some n=>if off+n<=cs.length then Ob (.agg ((cs.drop off).take n)) else Oe
  | none=>Oe
 | some Oc=>cs[off]?
 | none=>Oe
def aload (T:Tab) (t:TypeId) (h:za) (a:zd):Option zd:=
 match a with
 | .ptr b off=>match h.get b with
  | some (.arr cells _)=>apart T t cells off
  | _=>Oe
 | _=>Oe
def astore (T:Tab) (t:TypeId) (h:za) (a v:zd):Option za:=
  match a with
  | .ptr b off=>match h.get b with
    | some (.arr cells Oc)=>match szT T t with
      | some n=>if v.cells.length=n/\off+n<=cells.length/\v.cells.all zd.one=Od
          then Ob (h.set b (.arr (splice cells off v.cells) Oc)) else Oe
      | none=>Oe
    | _=>Oe
  | _=>Oe
def aint (op:BinOp) (k:IntKind) (a b:Int):Option zd:=
 match op with
 | .add=>Ob (.int k (k.wrap (a+b)))
 | .sub=>Ob (.int k (k.wrap (a-b)))
 | .mul=>Ob (.int k (k.wrap (a*b)))
 | .quo=>if b=0 then Oe else Ob (.int k (k.wrap (a.tdiv b)))
 | .rem=>if b=0 then Oe else Ob (.int k (a.tmod b))
 | .and=>Ob (.int k (k.wrap ((BitVec.ofInt k.bits a &&& BitVec.ofInt k.bits b).toNat)))
 | .or=>Ob (.int k (k.wrap ((BitVec.ofInt k.bits a ||| BitVec.ofInt k.bits b).toNat)))
 | .xor=>Ob (.int k (k.wrap ((BitVec.ofInt k.bits a ^^^ BitVec.ofInt k.bits b).toNat)))
 | .andNot=>Ob (.int k (k.wrap ((BitVec.ofInt k.bits a &&& ~~~ (BitVec.ofInt k.bits b)).toNat)))
 | .shl=>if b<0 then Oe else Ob (.int k (k.wrap (a*2 ^ (min b.toNat k.bits))))
 | .shr=>if b<0 then Oe else Ob (.int k (a.fdiv (2 ^ (min b.toNat k.bits))))
 | .eql=>Ob (.bool (a==b))
 | .neq=>Ob (.bool (a !=b))
 | .lss=>Ob (.bool (a<b))
 | .leq=>Ob (.bool (a<=b))
 | .gtr=>Ob (.bool (a>b))
 | .geq=>Ob (.bool (a>=b))
def zdr (f:Field->Option Bool):List Field->Option Bool
  | []=>Ob Od
  | x :: xs => if x.name ≠ "_" then
      (match f x with
       | some Od=>zdr f xs
       | some Oc=>Ob Oc
       | none=>Oe)
    else zdr f xs
def aeq (T:Tab):Nat->TypeId->zd->zd->Option Bool
 | 0,_,_,_=>Oe
 | d+1,t,x,y=>
  match T.und t,x,y with
  | some .bool,.bool a,.bool b=>Ob (a==b)
  | some (.int _),.int k a,.int k' b=>if k=k' then Ob (a==b) else Oe
  | some .string,.str a,.str b=>Ob (a==b)
  | some (.pointer _),.nq,.nq=>Ob Od
  | some (.pointer _),.nq,.ptr _ _=>Ob Oc
  | some (.pointer _),.ptr _ _,.nq=>Ob Oc
  | some (.slice _),.nsz,.nsz=>Ob Od
  | some (.slice _),.nsz,.slice ..=>Ob Oc
  | some (.slice _),.slice ..,.nsz=>Ob Oc
  | some (.map _ _),.nm,.nm=>Ob Od
  | some (.map _ _),.nm,.map _=>Ob Oc
  | some (.map _ _),.map _,.nm=>Ob Oc
  | some (.func ..),.nfz,.nfz=>Ob Od
  | some (.func ..),.nfz,.func ..=>Ob Oc
  | some (.func ..),.func ..,.nfz=>Ob Oc
  | some (.interface _),.ni,.iface ..=>Ob Oc
  | some (.interface _),.iface ..,.ni=>Ob Oc
  | some (.struct fields),.agg xs,.agg ys=>
   if ((T.types.get t).map (·.stood)).getD Od then Oe else
   zdr (λf=>match apart T f.type xs f.offset,apart T f.type ys f.offset with
    | some u,Ob v=>aeq T d f.type u v
    | _,_=>Oe) fields.toList
  | _,_,_=>Oe
def aguard (T:Tab) (t:TypeId) (x y:zd):Bool:=
 match x,y with
 | .ni,_=>(match y with | .ni=>Oc | .undef=>Oc | _=>Od)
 | .agg _,.agg _=>!((T.types.get t).map (·.eqg)).getD Od
 | .undef,_=>Oc
 | _,.undef=>Oc
 | _,_=>Od
def abin (T:Tab) (op:BinOp) (t:TypeId) (x y:zd):Option zd:=
  match x,y with
  | .int k a,.int k' b=>
    (match op with
     | .shl=>aint op k a b
     | .shr=>aint op k a b
     | _=>if k=k' then aint op k a b else Oe)
  | .str _,.str _=>Oe
  | x,y=>
    (match op with
     | .eql=>if aguard T t x y then (aeq T 8 t x y).map .bool else Oe
     | .neq=>if aguard T t x y then (aeq T 8 t x y).map (λb=>.bool (!b)) else Oe
     | _=>Oe)
def aun (op:UnOp) (x:zd):Option zd:=
 match op,x with
 | .neg,.int k n=>aint .sub k 0 n
 | .xor,.int k n=>aint .xor k (if k.signed then -1 else k.max) n
 | .not,.bool b=>Ob (.bool !b)
 | _,_=>Oe
def zft (T:Tab) (s:TypeId) (x:zd) (i:Nat):Option zd:=
 match T.und s with
 | some (.struct fields)=>match fields[i]? with
  | some f=>match szT T f.type,x with
   | some n,.ptr b off=>if n=0 then Oe else Ob (.ptr b (off+f.offset))
   | _,_=>Oe
  | none=>Oe
 | _=>Oe
def zdy (T:Tab) (t:TypeId) (x ix:zd):Option zd:=
 match ix with
 | .int _ i=>match T.und t,x with
  | some (.array len elem),.ptr b off=>match szT T elem with
   | some n=>if 0<=i/\i<len then Ob (.ptr b (off+i.toNat*n)) else Oe
   | none=>Oe
  | some (.slice elem),.slice b off len es _=>match szT T elem with
   | some n=>if 0<=i/\i<len/\n=es then Ob (.ptr b (off+i.toNat*n)) else Oe
   | none=>Oe
  | _,_=>Oe
 | _=>Oe
def aindex (T:Tab) (t:TypeId) (x ix:zd):Option zd:=
 match ix with
 | .int _ i=>match T.und t,x with
  | some (.array len elem),.agg cs=>match szT T elem with
   | some n=>if 0<=i/\i<len then apart T elem cs (i.toNat*n) else Oe
   | none=>Oe
  | some .string,.str s=>if 0<=i then (s[i.toNat]?).map λb=>.int .u8 b.toNat else Oe
  | _,_=>Oe
 | _=>Oe
def afield (T:Tab) (t:TypeId) (x:zd) (i:Nat):Option zd:=
 match T.und t with
 | some (.struct fields)=>match fields[i]?,x with
  | some f,.agg cs=>apart T f.type cs f.offset
  | _,_=>Oe
 | _=>Oe
def afill (place:Nat->Option (Nat×Nat)) (cells:List zd):List (Nat×zd)->Option (List zd)
 | []=>Ob cells
 | (i,v)::rest=>
  match place i with
  | none=>Oe
  | some (off,size)=>
   if v.defd=Od/\v.cells.length=size/\off+v.cells.length<=cells.length then afill place (splice cells off v.cells) rest else Oe
def aplaces (T:Tab):List Field->Option (List (Nat×Nat))
 | []=>Ob []
 | f::fs=>match szT T f.type,aplaces T fs with
  | some n,Ob l=>Ob ((f.offset,n)::l)
  | _,_=>Oe
def abuild (T:Tab) (t:TypeId) (parts:List (Nat×zd)):Option zd:=
 match zeS T t with
 | some z=>match T.und t with
  | some (.struct fields)=>match aplaces T fields.toList with
   | some places=>(afill (λi=>places[i]?) z.cells parts).map .agg
   | none=>Oe
  | some (.array _ elem)=>match szT T elem with
   | some n=>(afill (λi=>Ob (i*n,n)) z.cells parts).map .agg
   | none=>Oe
  | _=>Oe
 | none=>Oe
def zc8 (T:Tab) (elem:TypeId) (len:Nat) (cap:Option Nat) (n:Nat) (h:za) (parts:List (Nat×zd)):Option (zd×za):=
  match szT T elem with
  | some sz=>if sz=0 then Oe else
    match zeS T elem with
    | some z=>if z.cells.length=sz then
        (match afill (λi=>Ob (i*sz,sz)) (copies n z.cells) parts with
         | some cells=>Ob (.slice h.next 0 len sz cap,h.push (.arr cells Oc))
         | none=>Oe)
      else Oe
    | none=>Oe
  | none=>Oe
def zd3 (T:Tab) (t:TypeId) (len:Nat) (parts:List (Nat×zd)) (h:za):Option (zd×za):=
 match T.und t with
 | some (.slice elem)=>if len*(szT T elem).getD 0>2 ^ 24 then Oe else zc8 T elem len (Ob len) len h parts
 | _=>Oe
def zeD (T:Tab) (t:TypeId) (l c:zd) (h:za):Option (zd×za):=
 match T.und t,l,c with
 | some (.slice elem),.int .i64 l,.int .i64 c=>
  match T.types.get elem with
  | some i=>if 0<=l/\l<=c/\i.bytes*c<=2 ^ 47/\c<=2 ^ 62 then zc8 T elem l.toNat (Ob c.toNat) c.toNat h [] else Oe
  | none=>Oe
 | _,_,_=>Oe
def abound (x:Option zd) (dflt top:Nat):Option Nat:=
 match x with
 | none=>Ob dflt
 | some (.int _ i)=>if 0<=i/\i<=top then Ob i.toNat else Oe
 | _=>Oe
def aslice (T:Tab) (t:TypeId) (x:zd) (lo hi mx:Option zd):Option zd:=
 match T.und t,x with
 | some (.slice elem),.slice b off len es cap=>
  if szT T elem=Ob es/\0<es then
   match cap,mx with
   | none,Oe=>match abound hi len len with
    | some h=>match abound lo 0 h with
     | some l=>Ob (.slice b (off+l*es) (h-l) es Oe)
     | none=>Oe
    | none=>Oe
   | none,Ob m=>match abound mx len len with
    | some m'=>(match hi with
     | some _=>match abound hi len m' with
      | some h=>match abound lo 0 h with
       | some l=>Ob (.slice b (off+l*es) (h-l) es (Ob (m'-l)))
       | none=>Oe
      | none=>Oe
     | none=>if m.one then Oe else Oe)
    | none=>Oe
   | some c,_=>match abound mx c c with
    | some m'=>match (if mx.isSome&&hi.isNone then Oe else abound hi len m') with
     | some h=>match abound lo 0 h with
      | some l=>Ob (.slice b (off+l*es) (h-l) es (Ob (m'-l)))
      | none=>Oe
     | none=>Oe
    | none=>Oe
  else Oe
 | some (.slice elem),.nsz=>match szT T elem,mx,abound hi 0 0,abound lo 0 0 with
  | some _,Oe,Ob _,Ob _=>Ob .nsz
  | _,_,_,_=>Oe
 | _,_=>Oe
def zhA:zd->zd->Option Bool
 | .int k a,.int k' b=>if k=k' then Ob (a==b) else Oe
 | .bool a,.bool b=>Ob (a==b)
 | _,_=>Oe
def akeys:List zd->List zd->Option Bool
 | [],[]=>Ob Od
 | a::as,b::bs=>match zhA a b with
  | some Od=>akeys as bs
  | some Oc=>Ob Oc
  | none=>Oe
 | _,_=>Oe
def akey:zd->zd->Option Bool
 | .agg as,.agg bs=>akeys as bs
 | a,b=>zhA a b
def afind (k:zd):List (zd×zd)->Nat->Option (Option (Nat×zd))
 | [],_=>Ob Oe
 | (k',v)::es,i=>match akey k k' with
  | some Od=>Ob (Ob (i,v))
  | some Oc=>afind k es (i+1)
  | none=>Oe
def zh8 (T:Tab) (t:TypeId) (k:zd):Bool:=
 match T.und t,k with
 | some (.int j),.int j' _=>j==j'
 | some .bool,.bool _=>Od
 | _,_=>Oc
def zfx (T:Tab):Nat->List Field->List zd->Bool
 | _,[],[]=>Od
 | i, f :: fs, v :: vs => (f.name != "_") && Nat.beq f.offset i && zh8 T f.type v && zfx T (i + 1) fs vs
 | _,_,_=>Oc
def zgs (T:Tab) (t:TypeId) (k:zd):Bool:=
 match T.und t,k with
 | some (.int j),.int j' _=>j==j'
 | some .bool,.bool _=>Od
 | some (.struct fs),.agg cs=>zfx T 0 fs.toList cs&&!((T.types.get t).map (·.stood)).getD Od
 | _,_=>Oc
def alookup (T:Tab) (t:TypeId) (x ix:zd) (ok:Bool) (h:za):Option zd:=
  match T.und t with
  | some (.map key elem)=>if zgs T key ix then
      (match (match x with
        | .nm=>Ob []
        | .map r=>match h.get r with
          | some (.mp es)=>Ob es
          | _=>Oe
        | _=>Oe) with
      | some es=>match afind ix es 0 with
        | some (Ob (_,v))=>Ob (if ok then .tuple [v,.bool Od] else v)
        | some Oe=>match zeS T elem with
          | some z=>Ob (if ok then .tuple [z,.bool Oc] else z)
          | none=>Oe
        | none=>Oe
      | none=>Oe)
    else Oe
  | _=>Oe
def zbB (T:Tab) (t:TypeId) (m k v:zd) (h:za):Option za:=
  match T.und t,m with
  | some (.map key _),.map r=>if zgs T key k then
      (match h.get r with
       | some (.mp es)=>match afind k es 0 with
         | some (Ob (i,_))=>Ob (h.set r (.mp (es.set i (k,v))))
         | some Oe=>Ob (h.set r (.mp (es++[(k,v)])))
         | none=>Oe
       | _=>Oe)
    else Oe
  | _,_=>Oe
def alen (T:Tab) (t:TypeId) (x:zd) (h:za):Option zd:=
 match T.und t,x with
 | some (.slice _),.slice _ _ len _ _=>Ob (.int .i64 len)
 | some (.slice _),.nsz=>Ob (.int .i64 0)
 | some (.array n _),_=>Ob (.int .i64 n)
 | some (.map _ _),.nm=>Ob (.int .i64 0)
 | some (.map _ _),.map r=>match h.get r with
  | some (.mp es)=>Ob (.int .i64 es.length)
  | _=>Oe
 | some .string,.str s=>Ob (.int .i64 s.size)
 | _,_=>Oe
def acap (T:Tab) (t:TypeId) (x:zd):Option zd:=
 match T.und t,x with
 | some (.slice _),.nsz=>Ob (.int .i64 0)
 | some (.slice _),.slice _ _ _ _ (Ob c)=>Ob (.int .i64 c)
 | _,_=>Oe
def amax:List zd->Option zd
 | []=>Oe
 | .int k x::rest=>rest.foldlM (init:=zd.int k x) (λa b=>match a,b with
  | .int k x,.int _ y=>Ob (.int k (if y>x then y else x))
  | _,_=>Oe)
 | _=>Oe
def amin:List zd->Option zd
 | []=>Oe
 | .int k x::rest=>rest.foldlM (init:=zd.int k x) (λa b=>match a,b with
  | .int k x,.int _ y=>Ob (.int k (if y<x then y else x))
  | _,_=>Oe)
 | _=>Oe
def lenOf:zd->Nat
 | .slice _ _ len _ _=>len
 | _=>0
def arow (es n:Nat) (x:zd) (h:za):Option (List zd):=
  match x with
  | .nsz=>if n=0 then Ob [] else Oe
  | .slice b off len es' _=>if n=0 then (if es'=es then Ob [] else Oe) else if es'=es/\n<=len then
      (match h.get b with
       | some (.arr cells _)=>if off+n*es<=cells.length then Ob ((cells.drop off).take (n*es)) else Oe
       | _=>Oe)
    else Oe
  | _=>Oe
def azeros (T:Tab) (st xt:TypeId) (s x:zd) (h:za):Option (zd×za):=
  match T.und xt,T.und st,s,x with
  | some (.int .i64),Ob (.slice elem),.nsz,.int .i64 n=>
    match T.types.get elem with
    | some i=>match zeS T elem with
      | some z=>if i.size=0\/z.cells.length≠i.size then Oe
          else if 0<n/\n.toNat*i.bytes<=2 ^ 46/\n<=2 ^ 62 then Ob (.slice h.next 0 n.toNat i.size Oe,h.push (.arr (copies n.toNat z.cells) Oc)) else Oe
      | none=>Oe
    | none=>Oe
  | _,_,_,_=>Oe
def aappend (T:Tab) (argTypes:Array TypeId) (s x:zd) (h:za):Option (zd×za):=
  match argTypes.toList with
  | [st,xt]=>
    if st≠xt then azeros T st xt s x h else
    match T.und st with
    | some (.slice elem)=>
      match T.types.get elem with
      | some i=>
        let es:=i.size
        let n:=lenOf x
        match zeS T elem with
        | none=>Oe
        | some z=>
        if es=0\/z.cells.length≠es then Oe else
        match arow es n x h with
        | some news=>
          match s with
          | .nsz=>if n=0 then Ob (.nsz,h)
              else if n*i.bytes<=2 ^ 46/\n<=2 ^ 62 then Ob (.slice h.next 0 n es Oe,h.push (.arr news Oc)) else Oe
          | .slice b off len es' cap=>
            if es'=es/\(len+n)*i.bytes<=2 ^ 46/\len+n<=2 ^ 62 then
              match h.get b with
              | some (.arr cells ro)=>
                (match cap with
                 | some c=>
                   if len+n<=c then
                     (if ro=Oc/\off+(len+n)*es<=cells.length/\news.all zd.one=Od
                      then Ob (.slice b off (len+n) es cap,h.set b (.arr (splice cells (off+len*es) news) Oc)) else Oe)
                   else if off+len*es<=cells.length then
                     Ob (.slice h.next 0 (len+n) es Oe,h.push (.arr ((cells.drop off).take (len*es)++news) Oc)) else Oe
                 | none=>if ro=Oc/\off+len*es<=cells.length/\news.all zd.one=Od then
                     Ob (.slice h.next 0 (len+n) es Oe,(h.set b .dead).push (.arr ((cells.drop off).take (len*es)++news) Oc)) else Oe)
              | _=>Oe
            else Oe
          | _=>Oe
        | none=>Oe
      | none=>Oe
    | _=>Oe
  | _=>Oe
def acopy (T:Tab) (argTypes:Array TypeId) (d s:zd) (h:za):Option (zd×za):=
  match argTypes[0]? with
  | some dt=>match T.und dt with
    | some (.slice elem)=>match szT T elem with
      | some es=>
        let n:=Nat.min (lenOf s) (lenOf d)
        if es=0 then Oe else
        match arow es n s h with
        | some news=>match d with
          | .nsz=>Ob (.int .i64 n,h)
          | .slice b off _ es' _=>match h.get b with
            | some (.arr cells Oc)=>if es'=es/\off+n*es<=cells.length/\news.all zd.one=Od then
                Ob (.int .i64 n,h.set b (.arr (splice cells off news) Oc)) else Oe
            | _=>Oe
          | _=>Oe
        | none=>Oe
      | none=>Oe
    | _=>Oe
  | none=>Oe
def aconvert (T:Tab) (src dst:TypeId) (x:zd):Option zd:=
 match T.und src,T.und dst,x with
 | some _,Ob (.int k),.int _ n=>Ob (.int k (k.wrap n))
 | some _,Ob (.float k),.int _ n=>Ob (.float k (k.nearest n))
 | some _,Ob (.int k),.float f b=>(match (f.decode b).toInt .zero with
  | some n=>if k.min<=n/\n<=k.max then Ob (.int k n) else Oe
  | none=>Oe)
 | _,_,_=>Oe
inductive AN where
 | val (v:zd) (h:za)
 | call (f:zd) (args:List zd)
def z6 (h:za) (x:Option zd):Option AN:=x.map (AN.val · h)
def zf0 (x:Option (zd×za)):Option AN:=x.map λp=>AN.val p.1 p.2
def zgt (x:Option za):Option AN:=x.map λh=>AN.val (.tuple []) h
def abuiltin (T:Tab) (b:Builtin) (argTypes:Array TypeId) (args:List zd) (h:za):Option AN:=
 match b,args with
 | .len,[x]=>match argTypes[0]? with
  | some t=>z6 h (alen T t x h)
  | none=>Oe
 | .cap,[x]=>match argTypes[0]? with
  | some t=>z6 h (acap T t x)
  | none=>Oe
 | .append,[s,x]=>zf0 (aappend T argTypes s x h)
 | .copy,[d,s]=>zf0 (acopy T argTypes d s h)
 | .max,xs=>z6 h (amax xs)
 | .min,xs=>z6 h (amin xs)
 | _,_=>Oe
def zh9 (ev:Operand->zd) (h:za) (c a b:Operand):Option AN:=
 match ev c with
 | .bool t=>Ob (.val (bif t then ev a else ev b) h)
 | _=>Oe
def zf1 (T:Tab) (h:za) (elem:TypeId):Option AN:=
 match zeS T elem with
 | some z=>Ob (.val (.ptr h.next 0) (h.push (.arr z.cells Oc)))
 | none=>Oe
def zj1 (ev:Operand->zd) (h:za) (v:Operand):Option AN:=
 match ev v with
 | .undef=>Oe
 | x=>Ob (.val (.ptr h.next 0) (h.push (.arr x.cells Oc)))
def zds (ev:Operand->zd) (parts:List (Nat×Operand)):List (Nat×zd):=parts.map λp=>(p.1,ev p.2)
def zdz (h:za):zd->Option AN
 | .ptr b off=>Ob (.val (.ptr b off) h)
 | .func (.func f) a b=>Ob (.val (.func (.func f) a b) h)
 | .func (.yield l) a b=>Ob (.val (.func (.yield l) a b) h)
 | _=>Oe
def zcP (T:Tab) (h:za) (t:TypeId) (x:zd):Option AN:=
 match T.und t with
 | some (.interface _)=>Oe
 | some _=>Ob (.val (.iface t x) h)
 | none=>Oe
def zdA (ev:Operand->zd) (h:za) (fn:Fn) (first captured:List Operand):Option AN:=
 match fn with
 | .func f=>Ob (.val (.func (.func f) (first.map ev) (captured.map ev)) h)
 | _=>Oe
def zeT (T:Tab) (ev:Operand->zd) (h:za) (t:TypeId) (r:Option Operand):Option AN:=
 match T.und t,(match r with | none=>Ob 0 | some x=>(match ev x with | .int _ n=>Ob n | _=>Oe)) with
 | some (.map _ _),Ob _=>Ob (.val (.map h.next) (h.push (.mp [])))
 | _,_=>Oe
def zfy (h:za) (t:zd) (i:Nat):Option AN:=
 match t with
 | .tuple vs=>z6 h (vs[i]?)
 | _=>Oe
def zc1 (T:Tab) (ev:Operand->zd) (h:za) (c:Call):Option AN:=
 match c.callee with
 | .builtin b=>abuiltin T b c.argTypes (c.args.toList.map ev) h
 | .value f=>Ob (.call (ev f) (c.args.toList.map ev))
 | _=>Oe
def aop (T:Tab) (ev:Operand->zd) (h:za) (op:Op):Option AN:=
 match op with
 | .move x=>Ob (.val (ev x) h)
 | .assign x=>Ob (.val (ev x) h)
 | .pick c a b=>zh9 ev h c a b
 | .alloc elem=>zf1 T h elem
 | .box _ v=>zj1 ev h v
 | .build t parts=>z6 h (abuild T t (zds ev parts.toList))
 | .buildSlice t len parts=>zf0 (zd3 T t len (zds ev parts.toList) h)
 | .load t a=>z6 h (aload T t h (ev a))
 | .store t a x=>zgt (astore T t h (ev a) (ev x))
 | .nilCheck x=>zdz h (ev x)
 | .binOp op t x y _=>z6 h (abin T op t (ev x) (ev y))
 | .unOp op _ x=>z6 h (aun op (ev x))
 | .convert src dst x=>z6 h (aconvert T src dst (ev x))
 | .makeInterface t x=>zcP T h t (ev x)
 | .makeFunc fn first captured=>zdA ev h fn first.toList captured.toList
 | .makeMap t r=>zeT T ev h t r
 | .makeSlice t l c=>zf0 (zeD T t (ev l) (ev c) h)
 | .slice t x lo hi mx=>z6 h (aslice T t (ev x) (lo.map ev) (hi.map ev) (mx.map ev))
 | .fieldAddr s x f=>z6 h (zft T s (ev x) f)
 | .field t x f=>z6 h (afield T t (ev x) f)
 | .indexAddr t x ix=>z6 h (zdy T t (ev x) (ev ix))
 | .index t x ix=>z6 h (aindex T t (ev x) (ev ix))
 | .lookup t x ix ok=>z6 h (alookup T t (ev x) (ev ix) ok h)
 | .mapUpdate t m k x=>zgt (zbB T t (ev m) (ev k) (ev x) h)
 | .insert t m k x=>zgt (zbB T t (ev m) (ev k) (ev x) h)
 | .extract t i=>zfy h (ev t) i
 | .call c=>zc1 T ev h c
 | _=>Oe
def putDst (fr:zi) (dst:Option Nat) (v:zd):zi:=
 match dst with
 | some d=>Tr.set fr d v
 | none=>fr
inductive zj2 where
 | ret (v:zd)
 | pan (v:zd)
inductive zaQ where
 | normal
 | exit (id:Nat)
 | goto (l:Nat)
 | ret
 | pan (v:zd)
abbrev Caller:=zd->List zd->za->Option (zj2×za)
def awanted (ops:List Oper) (fr:zi) (g:Option (Nat×Bool)):Option Bool:=
 match g with
 | none=>Ob Od
 | some (j,want)=>match (ops[j]?).bind (λ(o:Oper)=>o.dst) with
  | some d=>match fr.ev d with
   | .bool b=>Ob (b==want)
   | .undef=>Oe
   | _=>Ob Oc
  | none=>Ob Oc
def unit:zd:=.tuple []
structure Foot where
 rd:List Nat
 rall:Bool
 wr:List Nat
 wall:Bool
def zS:zd->List Nat
 | .ptr b _=>[b]
 | .slice b _ _ _ _=>[b]
 | .map r=>[r]
 | _=>[]
def zon:zd->List Nat
 | .map r=>[r]
 | _=>[]
def foot (ev:Operand->zd) (o:Oper):Foot:=
 match o.op with
 | .load _ a=>⟨zS (ev a),Oc,[],Oc⟩
 | .store _ a _=>⟨[],Oc,zS (ev a),Oc⟩
 | .lookup _ x _ _=>⟨zS (ev x),Oc,[],Oc⟩
 | .mapUpdate _ m _ _=>⟨[],Oc,zS (ev m),Oc⟩
 | .insert _ m _ _=>⟨[],Oc,zS (ev m),Oc⟩
 | .call c=>(match c.callee with
  | .builtin .len=>⟨(c.args.toList.map ev).flatMap zon,Oc,[],Oc⟩
  | .builtin .append=>⟨((c.args.toList.map ev).drop 1).flatMap zS,Oc,((c.args.toList.map ev).take 1).flatMap zS,Oc⟩
  | .builtin .copy=>⟨((c.args.toList.map ev).drop 1).flatMap zS,Oc,((c.args.toList.map ev).take 1).flatMap zS,Oc⟩
  | .builtin _=>⟨[],Oc,[],Oc⟩
  | _=>⟨[],Od,[],Oc⟩)
 | _=>⟨[],Oc,[],Oc⟩
def disj (a b:List Nat):Bool:=a.all λx=>!b.contains x
def Foot.apart (a b:Foot):Bool:=
 disj a.wr b.rd&&disj a.wr b.wr&&disj a.rd b.wr &&
 (!a.wall||(b.rd.isEmpty&&b.wr.isEmpty&&!b.rall&&!b.wall))&&(!b.wall||(a.rd.isEmpty&&a.wr.isEmpty&&!a.rall&&!a.wall)) &&
 (!a.rall||(b.wr.isEmpty&&!b.wall))&&(!b.rall||(a.wr.isEmpty&&!a.wall))
def before (ops:List Oper):Nat->List Nat->List Nat->List Nat
 | 0,_,seen=>seen
 | _+1,[],seen=>seen
 | k+1,j::todo,seen=>
  let es:=match ops[j]? with
   | some o=>(o.after.toList.filter (Region.binds .any)).map (λ(e:Edge)=>e.on)
   | none=>[]
  let news:=es.filter λi=>!seen.contains i
  before ops k (news++todo) (news++seen)
def zct (ops:List Oper) (j:Nat):List Nat:=before ops ((ops.length+1)*(ops.length+1)) [j] []
def zcC (ops:List Oper) (j:Nat) (f:Foot) (done:List (Nat×Foot)):Bool:=
 if done.all (λp=>p.2.apart f) then Od
 else
  let b:=zct ops j
  done.all λp=>p.2.apart f||b.contains p.1
def astep (T:Tab) (call:Caller) (ev:Operand->zd) (o:Op) (h:za):Option (zj2×za):=
 match aop T ev h o with
 | some (.val v h')=>Ob (.ret v,h')
 | some (.call f args)=>call f args h
 | none=>Oe
def aops (T:Tab) (call:Caller) (ops:List Oper):List Oper->zi->za->Option (zaQ×zi×za)
 | [],fr,h=>Ob (.normal,fr,h)
 | o::rest,fr,h=>
  match awanted ops fr o.guard with
  | some Od=>match astep T call fr.op o.op h with
   | some (.ret v,h')=>aops T call ops rest (putDst fr o.dst v) h'
   | some (.pan v,h')=>Ob (.pan v,fr,h')
   | none=>Oe
  | some Oc=>aops T call ops rest (putDst fr o.dst unit) h
  | none=>Oe
def zfT (f:Foot) (h h':za):Foot:=
 bif f.rall then { f with wall:=!(Nat.ble h.next h'.wm) } else f
def adraw (T:Tab) (call:Caller) (ops:List Oper):List Oper->Nat->List (Nat×Foot)->zi->za->Option (zi×za)
 | [],_,_,fr,h=>Ob (fr,h)
 | o::rest,i,done,fr,h=>
  match awanted ops fr o.guard with
  | some Od=>
   (match astep T call fr.op o.op { h with wm:=h.next } with
   | some (.ret v,h')=>
    match zfT (foot fr.op o) h h' with
    | f=>bif zcC ops i f done then adraw T call ops rest (i+1) ((i,f)::done) (putDst fr o.dst v) { h' with wm:=min h.wm h'.wm } else Oe
   | _=>Oe)
  | some Oc=>adraw T call ops rest (i+1) done (putDst fr o.dst unit) h
  | none=>Oe
def aresult (T:Tab) (fr:zi) (h:za):ResultVar->Option zd
 | .tmp t=>Ob (fr.ev t)
 | .cell a t=>aload T t h (fr.ev a)
def aresults (T:Tab) (rs:List ResultVar) (fr:zi) (h:za):Option (List zd):=
 match rs with
 | []=>Ob []
 | r::rs=>match aresult T fr h r,aresults T rs fr h with
  | some v,Ob vs=>Ob (v::vs)
  | _,_=>Oe
def packed:List zd->zd
 | [v]=>v
 | vs=>.tuple vs
def zcK:Nat->List zd->zi->zi
 | _,[],fr=>fr
 | i,v::vs,fr=>zcK (i+1) vs (Tr.set fr i v)
def zdt:List Nat->List zd->zi->zi
 | p::ps,v::vs,fr=>zdt ps vs (Tr.set fr p v)
 | _,_,fr=>fr
abbrev Runner:=Code->zi->za->Option (zaQ×zi×za)
def zeE (T:Tab) (run:Runner) (f:FuncId) (args:List zd) (h:za):Option (zj2×za):=
 match T.funcs.get f with
 | some F=>bif Nat.blt F.ntmps args.length then Oe else match F.body with
  | some c=>match run c (zcK 0 args .leaf) h with
   | some (.normal,fr,h')=>match aresults T F.results.toList fr h' with
    | some vs=>Ob (.ret (packed vs),h')
    | none=>Oe
   | some (.ret,fr,h')=>match aresults T F.results.toList fr h' with
    | some vs=>Ob (.ret (packed vs),h')
    | none=>Oe
   | some (.pan v,_,h')=>Ob (.pan v,h')
   | _=>Oe
  | none=>Oe
 | none=>Oe
def around (run:Runner) (l:Nat) (args:List zd) (h:za):Option (zj2×za):=
  match h.get l with
  | some (.loop L)=>if L.state=.ready/\args.length=L.params.length then
      match run L.assign (zdt L.params args L.fr) h with
      | some (.normal,fr,h1)=>(match h1.get l with
        | some (.loop L1)=>if L1.state=.ready then
            match run L.body fr (h1.set l (.loop { L with state:=.busy })) with
            | some (.normal,_,h2)=>Ob (.ret (.bool Od),h2.set l (.loop { L with state:=.ready,pending:=Oe }))
            | some (.ret,_,h2)=>Ob (.ret (.bool Oc),h2.set l (.loop { L with state:=.done,pending:=Ob .ret }))
            | some (.exit id,_,h2)=>Ob (.ret (.bool Oc),h2.set l (.loop { L with state:=.done,pending:=Ob (.exit id) }))
            | some (.pan v,_,h2)=>Ob (.pan v,h2)
            | _=>Oe
          else Oe
        | _=>Oe)
      | _=>Oe
    else Oe
  | _=>Oe
def acall (T:Tab) (run:Runner):Caller:=λf args h=>
 match f with
 | .func (.func g) first captured=>(match T.consts.get g with
  | some p=>(p (first++args++captured)).map λv=>(.ret v,h)
  | none=>zeE T run g (first++args++captured) h)
 | .func (.yield l) first _=>around run l (first++args) h
 | _=>Oe
def aexec (T:Tab):Nat->Runner
 | 0,_,_,_=>Oe
 | n+1,c,fr,h=>
  match c with
  | .skip=>Ob (.normal,fr,h)
  | .label _=>Ob (.normal,fr,h)
  | .region _ ops draw=>
   if draw then (match adraw T (acall T (aexec T n)) ops.toList ops.toList 0 [] fr h with
    | some (fr',h')=>Ob (.normal,fr',h')
    | none=>Oe)
   else aops T (acall T (aexec T n)) ops.toList ops.toList fr h
  | .seq a b=>match aexec T n a fr h with
   | some (.normal,fr',h')=>aexec T n b fr' h'
   | r=>r
  | .cond c a b=>match fr.op c with
   | .bool t=>aexec T n (if t then a else b) fr h
   | _=>Oe
  | .block id c=>match aexec T n c fr h with
   | some (.exit id',fr',h')=>if id'=id then Ob (.normal,fr',h') else Ob (.exit id',fr',h')
   | r=>r
  | .loop c=>match aexec T n c fr h with
   | some (.normal,fr',h')=>aexec T n (.loop c) fr' h'
   | r=>r
  | .rangeFunc f params assign body=>
   match acall T (aexec T n) (fr.op f) [.func (.yield h.next) [] []] (h.push (.loop { state:=.ready,pending:=Oe,fr,params:=params.toList,assign,body })) with
   | some (.ret _,h2)=>match h2.get h.next with
    | some (.loop L)=>if L.state=.busy then Oe else
     match L.pending with
     | none=>Ob (.normal,fr,h2.set h.next (.loop { L with state:=.exhausted }))
     | some .ret=>Ob (.ret,fr,h2.set h.next (.loop { L with state:=.exhausted }))
     | some (.exit id)=>Ob (.exit id,fr,h2.set h.next (.loop { L with state:=.exhausted }))
     | _=>Oe
    | _=>Oe
   | some (.pan v,h2)=>Ob (.pan v,fr,h2)
   | none=>Oe
  | .exit id=>Ob (.exit id,fr,h)
  | .scope c=>(match aexec T n c fr h with
   | some (.goto _,_,_)=>Oe
   | r=>r)
  | .goto l=>Ob (.goto l,fr,h)
  | .ret=>Ob (.ret,fr,h)
  | .refuse _=>Oe
theorem zl7 (a:Nat):Nat.beq (Nat.mod a 2) 0=decide (a%2=0):=by
 show Nat.beq (a%2) 0=_;cases h:a%2 with
 | zero=>rfl
 | succ n=>simp [Nat.beq]
theorem Tr.get_succ {α:Type} (v:Option α) (l r:Tr α) (m:Nat):(Tr.node v l r).get (m+1)=if m%2=0 then l.get (m/2) else r.get (m/2):=by
 show (bif Nat.beq (Nat.mod m 2) 0 then l.get (Nat.div m 2) else r.get (Nat.div m 2))=_;rw [zl7];by_cases h:m%2=0<;>simp [h]<;>rfl
theorem Tr.put_leaf {α:Type} (k n:Nat) (x:α):Tr.put (k+1) .leaf (n+1) x=if n%2=0 then .node Oe (Tr.put k .leaf (n/2) x) .leaf else .node Oe .leaf (Tr.put k .leaf (n/2) x):=by
 show (bif Nat.beq (Nat.mod n 2) 0 then Tr.node Oe (Tr.put k .leaf (Nat.div n 2) x) .leaf else .node Oe .leaf (Tr.put k .leaf (Nat.div n 2) x))=_;rw [zl7];by_cases h:n%2=0<;>simp [h]<;>rfl
theorem Tr.put_node {α:Type} (k:Nat) (v:Option α) (l r:Tr α) (n:Nat) (x:α):Tr.put (k+1) (.node v l r) (n+1) x=if n%2=0 then .node v (Tr.put k l (n/2) x) r else .node v l (Tr.put k r (n/2) x):=by
 show (bif Nat.beq (Nat.mod n 2) 0 then Tr.node v (Tr.put k l (Nat.div n 2) x) r else .node v l (Tr.put k r (Nat.div n 2) x))=_;rw [zl7];by_cases h:n%2=0<;>simp [h]<;>rfl
theorem Tr.get_put {α:Type}:∀ (k:Nat) (t:Tr α) (n:Nat) (x:α) (m:Nat),n<k->(Tr.put k t n x).get m=if m=n then Ob x else t.get m
 | 0,_,n,_,_,h=>absurd h (Nat.not_lt_zero n)
 | k+1,.leaf,0,x,m,_=>by cases m<;>simp [Tr.put,Tr.get]
 | k+1,.leaf,n+1,x,m,h=>by
  have ih:=λm'=>Tr.get_put k .leaf (n/2) x m' J;rw [Tr.put_leaf];cases m with
  | zero=>split<;>simp [Tr.get]
  | succ m=>
   by_cases e:m=n
   ·subst e;split<;>rw [Tr.get_succ]<;>simp_all
   ·rw [if_neg (show ¬ (m+1=n+1) by omega)];split<;>rw [Tr.get_succ]<;>split<;>simp_all [Tr.get]<;>omega
 | k+1,.node v l r,0,x,m,_=>by cases m<;>simp [Tr.put,Tr.get]
 | k+1,.node v l r,n+1,x,m,h=>by
  have hlt:n/2<k:=J
  have ihl:=λm'=>Tr.get_put k l (n/2) x m' hlt;have ihr:=λm'=>Tr.get_put k r (n/2) x m' hlt;rw [Tr.put_node];cases m with
  | zero=>split<;>simp [Tr.get]
  | succ m=>
   by_cases e:m=n
   ·subst e;split<;>rw [Tr.get_succ]<;>simp_all
   ·rw [if_neg (show ¬ (m+1=n+1) by omega)];split<;>rw [Tr.get_succ,Tr.get_succ]<;>split<;>simp_all<;>omega
theorem Tr.get_set {α:Type} (t:Tr α) (n:Nat) (x:α) (m:Nat):(t.set n x).get m=if m=n then Ob x else t.get m:=
 Tr.get_put (n+1) t n x m (Nat.lt_succ_self n)
theorem zi.ev_set (fr:zi) (n:Nat) (x:zd) (m:Nat):zi.ev (Tr.set fr n x) m=if m=n then x else fr.ev m:=by
 unfold zi.ev;rw [Tr.get_set];split<;>rfl
theorem za.get_set (h:za) (b:Nat) (x:zfS) (b':Nat):(h.set b x).get b'=if b'=b then Ob x else h.get b':=Tr.get_set _ _ _ _
theorem za.get_push (h:za) (x:zfS) (b':Nat):(h.push x).get b'=if b'=h.next then Ob x else h.get b':=Tr.get_set _ _ _ _
theorem za.next_set (h:za) (b:Nat) (x:zfS):(h.set b x).next=h.next:=rfl
theorem za.next_push (h:za) (x:zfS):(h.push x).next=h.next+1:=rfl
structure Loc where
 c:Nat
 o:Nat
 n:Nat
abbrev Emb:=Nat->Option Loc
def Ext (G G':Emb):Prop:=∀ b l,G b=Ob l->G' b=Ob l
theorem Ext.refl (G:Emb):Ext G G:=λ_ _ h=>h
theorem Ext.trans {G G' G'':Emb} (h:Ext G G') (h':Ext G' G''):Ext G G'':=λb l e=>h' b l (h b l e)
def zm4 (G:Emb) (f f':Fn):Prop:=
 (∃ l l':Nat,f=.yield l/\f'=.yield l'/\∃ loc,G l=Ob loc/\loc.c=l')\/(∃ g,f=.func g/\f'=.func g)
inductive zal (G:Emb):zd->Value->Prop where
 | undef (v:Value):zal G .undef v
 | bool (b:Bool):zal G (.bool b) (.bool b)
 | int (k:IntKind) (n:Int):zal G (.int k n) (.int k n)
 | float (k:FloatKind) (b:Nat):zal G (.float k b) (.float k b)
 | str (s:ByteArray):zal G (.str s) (.string s)
 | ptr (b off:Nat) (l:Loc) (h:G b=Ob l):zal G (.ptr b off) (.pointer (Ob ⟨l.c,l.o+off,Oe⟩))
 | nq:zal G .nq (.pointer Oe)
 | slice (b off len es:Nat) (cap:Option Nat) (l:Loc) (a:Addr) (ccap:Nat) (h:G b=Ob l) (hlen:len<=ccap) (hcap:∀ k,cap=Ob k->ccap=k)
  (hoff:ccap=0\/(a=⟨l.c,l.o+off,Oe⟩/\l.o+off+ccap*es<=l.n)):zal G (.slice b off len es cap) (.slice (Ob a) len ccap)
 | nsz:zal G .nsz (.slice Oe 0 0)
 | map (r:Nat) (l:Loc) (h:G r=Ob l):zal G (.map r) (.map (Ob l.c))
 | nm:zal G .nm (.map Oe)
 | func (fn fn':Fn) (f c:List zd) (f' c':Array Value) (hfn:zm4 G fn fn') (hf:f.length=f'.size) (hc:c.length=c'.size)
  (hfs:∀ (i:Nat) (v:zd) (v':Value),f[i]?=Ob v->f'[i]?=Ob v'->zal G v v') (hcs:∀ (i:Nat) (v:zd) (v':Value),c[i]?=Ob v->c'[i]?=Ob v'->zal G v v') :
  zal G (.func fn f c) (.func fn' f' c')
 | nfz:zal G .nfz .nilFunc
 | iface (t:TypeId) (v:zd) (v':Value) (h:zal G v v'):zal G (.iface t v) (.iface t v')
 | ni:zal G .ni .nilIface
 | agg (cs:List zd) (cs':Array Value) (hl:cs.length=cs'.size) (hs:∀ (i:Nat) (v:zd) (v':Value),cs[i]?=Ob v->cs'[i]?=Ob v'->zal G v v'):zal G (.agg cs) (.agg cs')
 | tuple (cs:List zd) (cs':Array Value) (hl:cs.length=cs'.size) (hs:∀ (i:Nat) (v:zd) (v':Value),cs[i]?=Ob v->cs'[i]?=Ob v'->zal G v v'):zal G (.tuple cs) (.tuple cs')
theorem zm4.mono {G G':Emb} {f f':Fn} (h:zm4 G f f') (e:Ext G G'):zm4 G' f f':=by
 rcases h with ⟨l,l',rfl,rfl,loc,hl,hc⟩ | ⟨g,rfl,rfl⟩
 . exact .inl ⟨l,l',rfl,rfl,loc,e _ _ hl,hc⟩
 . exact .inr ⟨g,rfl,rfl⟩
theorem zal.mono {G G':Emb} {v:zd} {v':Value} (h:zal G v v') (e:Ext G G'):zal G' v v':=by
 induction h with
 | undef v=>exact .undef v
 | bool b=>exact .bool b
 | int k n=>exact .int k n
 | float k b=>exact .float k b
 | str s=>exact .str s
 | ptr b off l h=>exact .ptr b off l (e _ _ h)
 | nq=>exact .nq
 | slice b off len es cap l a ccap h hlen hcap hoff=>exact .slice b off len es cap l a ccap (e _ _ h) hlen hcap hoff
 | nsz=>exact .nsz
 | map r l h=>exact .map r l (e _ _ h)
 | nm=>exact .nm
 | func fn fn' f c f' c' hfn hf hc _ _ ihf ihc=>exact .func fn fn' f c f' c' (hfn.mono e) hf hc ihf ihc
 | nfz=>exact .nfz
 | iface t v v' _ ih=>exact .iface t v v' ih
 | ni=>exact .ni
 | agg cs cs' hl _ ih=>exact .agg cs cs' hl ih
 | tuple cs cs' hl _ ih=>exact .tuple cs cs' hl ih
def zcL (G:Emb) (vs:List zd) (vs':List Value):Prop:=
 vs.length=vs'.length/\∀ (i:Nat) (v:zd) (v':Value),vs[i]?=Ob v->vs'[i]?=Ob v'->zal G v v'
theorem zcL.nil (G:Emb):zcL G [] []:=⟨rfl,by simp⟩
theorem zcL.cons {G:Emb} {v:zd} {v':Value} {vs:List zd} {vs':List Value} (h:zal G v v') (hs:zcL G vs vs'):zcL G (v::vs) (v'::vs'):=by
 refine ⟨by simp [hs.1],λi u u' hu hu'=>?_⟩;cases i with
 | zero=>simp at hu hu'; subst hu hu'; exact h
 | succ i=>simp at hu hu'; exact hs.2 i u u' hu hu'
theorem zcL.head {G:Emb} {v:zd} {v':Value} {vs:List zd} {vs':List Value} (h:zcL G (v::vs) (v'::vs')):zal G v v':=h.2 0 v v' rfl rfl
theorem zcL.tail {G:Emb} {v:zd} {v':Value} {vs:List zd} {vs':List Value} (h:zcL G (v::vs) (v'::vs')):zcL G vs vs':=
 ⟨by simpa using h.1,λi u u' hu hu'=>h.2 (i+1) u u' (by simpa using hu) (by simpa using hu')⟩
theorem zcL.cons_inv {G:Emb} {v:zd} {vs:List zd} {us':List Value} (h:zcL G (v::vs) us'):∃ v' vs',us'=v'::vs'/\zal G v v'/\zcL G vs vs':=by
 cases us' with
 | nil=>have:=h.1; simp at this
 | cons v' vs'=>exact ⟨v',vs',rfl,h.head,h.tail⟩
theorem zcL.nil_inv {G:Emb} {us':List Value} (h:zcL G [] us'):us'=[]:=by
 have:=h.1; simp at this; exact List.eq_nil_of_length_eq_zero this.symm
theorem zcL.mono {G G':Emb} {vs:List zd} {vs':List Value} (h:zcL G vs vs') (e:Ext G G'):zcL G' vs vs':=
 ⟨h.1,λi v v' hv hv'=>(h.2 i v v' hv hv').mono e⟩
theorem zcL.append {G:Emb} {vs us:List zd} {vs' us':List Value} (h:zcL G vs vs') (h':zcL G us us'):zcL G (vs++us) (vs'++us'):=by
 refine ⟨by simp [h.1,h'.1],λi v v' hv hv'=>?_⟩;rw [List.getElem?_append] at hv hv';rw [h.1] at hv;split at hv
 . rename_i hlt;rw [if_pos hlt] at hv';exact h.2 _ _ _ hv hv'
 . rename_i hlt;rw [if_neg hlt] at hv';exact h'.2 _ _ _ hv hv'
theorem zcL.take {G:Emb} {vs:List zd} {vs':List Value} (h:zcL G vs vs') (n:Nat):zcL G (vs.take n) (vs'.take n):=by
 refine ⟨by simp [h.1],λi v v' hv hv'=>?_⟩;rw [List.getElem?_take] at hv hv';split at hv
 . rename_i hlt; rw [if_pos hlt] at hv'; exact h.2 _ _ _ hv hv'
 . cases hv
theorem zcL.drop {G:Emb} {vs:List zd} {vs':List Value} (h:zcL G vs vs') (n:Nat):zcL G (vs.drop n) (vs'.drop n):=by
 refine ⟨by simp [h.1],λi v v' hv hv'=>?_⟩;rw [List.getElem?_drop] at hv hv';exact h.2 _ _ _ hv hv'
theorem zcL.at {G:Emb} {vs:List zd} {vs':List Value} (h:zcL G vs vs') {i:Nat} {v:zd} (hv:vs[i]?=Ob v):∃ v',vs'[i]?=Ob v'/\zal G v v':=by
 have hi:i<vs'.length:=by rw [← h.1]; exact (List.getElem?_eq_some_iff.1 hv).1
 exact ⟨vs'[i],List.getElem?_eq_getElem hi,h.2 i v _ hv (List.getElem?_eq_getElem hi)⟩
theorem zal.agg' {G:Emb} {cs:List zd} {cs':List Value} (h:zcL G cs cs'):zal G (.agg cs) (.agg cs'.toArray):=
 .agg cs cs'.toArray (by simp [h.1]) λi v v' hv hv'=>h.2 i v v' hv (by simpa using hv')
theorem zal.tuple' {G:Emb} {cs:List zd} {cs':List Value} (h:zcL G cs cs'):zal G (.tuple cs) (.tuple cs'.toArray):=
 .tuple cs cs'.toArray (by simp [h.1]) λi v v' hv hv'=>h.2 i v v' hv (by simpa using hv')
theorem zal.agg_inv {G:Emb} {cs:List zd} {x:Value} (h:zal G (.agg cs) x):∃ cs',x=.agg cs'/\zcL G cs cs'.toList:=by
 cases h with
 | agg _ cs' hl hs=>exact ⟨cs',rfl,by simpa using hl,λi v v' hv hv'=>hs i v v' hv (by simpa using hv')⟩
theorem zal.tuple_inv {G:Emb} {cs:List zd} {x:Value} (h:zal G (.tuple cs) x):∃ cs',x=.tuple cs'/\zcL G cs cs'.toList:=by
 cases h with
 | tuple _ cs' hl hs=>exact ⟨cs',rfl,by simpa using hl,λi v v' hv hv'=>hs i v v' hv (by simpa using hv')⟩
theorem zal.cells {G:Emb} {v:zd} {v':Value} (h:zal G v v') (hu:v≠.undef):zcL G v.cells v'.cells.toList:=by
 cases h with
 | undef=>exact absurd rfl hu
 | agg cs cs' hl hs=>exact ⟨by simpa [zd.cells,Value.cells] using hl,λi v v' hv hv'=>hs i v v' hv (by simpa [Value.cells] using hv')⟩
 | slice b off len es cap l a ccap h hlen hcap hoff=>exact .cons (.slice b off len es cap l a ccap h hlen hcap hoff) (.nil _)
 | func fn fn' f c f' c' hfn hf hc hfs hcs=>exact .cons (.func fn fn' f c f' c' hfn hf hc hfs hcs) (.nil _)
 | tuple cs cs' hl hs=>exact .cons (.tuple cs cs' hl hs) (.nil _)
 | bool b=>exact .cons (.bool b) (.nil _)
 | int k n=>exact .cons (.int k n) (.nil _)
 | float k b=>exact .cons (.float k b) (.nil _)
 | str s=>exact .cons (.str s) (.nil _)
 | ptr b off l h=>exact .cons (.ptr b off l h) (.nil _)
 | nq=>exact .cons .nq (.nil _)
 | nsz=>exact .cons .nsz (.nil _)
 | map r l h=>exact .cons (.map r l h) (.nil _)
 | nm=>exact .cons .nm (.nil _)
 | nfz=>exact .cons .nfz (.nil _)
 | iface t v v' h=>exact .cons (.iface t v v' h) (.nil _)
 | ni=>exact .cons .ni (.nil _)
theorem zal.one {G:Emb} {v:zd} {v':Value} (h:zal G v v') (hu:v.one=Od):(match v' with | .agg _ | .tuple _=>Oc | _=>Od)=Od:=by
 cases h<;>first | rfl | (simp [zd.one] at hu)
theorem zlm (G:Emb) (v:Value) (x:zd) (h:zll v=Ob x):zal G x v:=by
 unfold zll at h;split at h
 . cases h; exact .bool _
 . cases h; exact .int _ _
 . cases h; exact .float _ _
 . cases h; exact .str _
 . cases h; exact .nq
 . split at h
   . rename_i hlc; cases h; obtain ⟨rfl,rfl⟩:=hlc; exact .nsz
   . cases h
 . cases h; exact .nm
 . cases h; exact .nfz
 . cases h; exact .ni
 . split at h
   . rename_i f fi ca hlc;cases h;exact .func _ _ [] [] fi ca (.inr ⟨f,rfl,rfl⟩) (by simp [hlc.1]) (by simp [hlc.2]) Ol Ol
   . cases h
 . cases h
theorem zj3 (G:Emb):∀ (vs:List Value) (xs:List zd),zgV vs=Ob xs->zcL G xs vs
 | [],xs,h=>by simp [zgV] at h; subst h; exact .nil _
 | v::vs,xs,h=>by
  simp only [zgV] at h;split at h
  . rename_i x xs' hx hxs;cases h;exact .cons (zlm G v x hx) (zj3 G vs xs' hxs)
  . cases h
theorem zeU (G:Emb) (v:Value) (x:zd) (h:zhM v=Ob x):zal G x v:=by
 unfold zhM at h;split at h
 . rename_i cs;cases hc:zgV cs.toList with
   | none=>rw [hc] at h; cases h
   | some xs=>
    rw [hc] at h;cases h;exact .agg' (cs':=cs.toList) (zj3 G _ _ hc)
 . exact zlm G v x h
def zj4 (G:Emb) (fr:zi) (tmps:Array Value):Prop:=∀ t,zal G (fr.ev t) (tmps.getD t undef)
theorem zj4.mono {G G':Emb} {fr:zi} {tmps:Array Value} (h:zj4 G fr tmps) (e:Ext G G'):zj4 G' fr tmps:=λt=>(h t).mono e
theorem zj4.put {G:Emb} {fr:zi} {tmps:Array Value} {d:Nat} {v:zd} {v':Value} (h:zj4 G fr tmps) (hd:d<tmps.size) (hv:zal G v v') :
 zj4 G (Tr.set fr d v) (tmps.setIfInBounds d v'):=by
 intro t;rw [zi.ev_set];by_cases ht:t=d
 . subst ht;simp [Array.getD,hd];exact hv
 . rw [if_neg ht];have:=h t;rw [show (tmps.setIfInBounds d v').getD t undef=tmps.getD t undef from by
    simp [Array.getD_eq_getD_getElem?,Array.getElem?_setIfInBounds,show ¬ d=t from λe=>ht e.symm]]
   exact this
def Owns (h:za) (b:Nat):Prop:=
 match h.get b with
 | some (.arr _ Oc)=>True
 | some (.mp _)=>True
 | some (.loop _)=>True
 | _=>False
def Alive (h:za) (b:Nat):Prop:=
 match h.get b with
 | some .dead=>False
 | some _=>True
 | none=>False
def zwy (n:Nat) (o:Oper):Bool:=match o.dst with | some d=>d<n | none=>Od
def zhN:List Oper->Nat->Bool
 | [],_=>Od
 | o::os,i=>o.after.all (λe=>!Region.binds .any e||e.on<i)&&zhN os (i+1)
def zrp:Operand->List Nat
 | .tmp t=>[t]
 | _=>[]
def looks (ops:List Oper) (o:Oper):List Nat:=
 o.op.operands.toList.flatMap zrp++(match o.guard with | some (j,_)=>(match (ops[j]?).bind (λ(o:Oper)=>o.dst) with | some d=>[d] | none=>[]) | none=>[])
def zfu (ops:List Oper) (a b:Oper):Bool:=
 (match a.dst with | some d=>!(looks ops b).contains d&&(match b.dst with | some d'=>!(d==d') | none=>Od) | none=>Od) &&
 (match b.dst with | some d=>!(looks ops a).contains d | none=>Od)
def ziK (ops:List Oper):List Oper->Nat->Bool
 | [],_=>Od
 | o::os,i=>(if (List.range i).all (λk=>match ops[k]? with | some a=>zfu ops a o | none=>Od) then Od else
  let b:=zct ops i
  (List.range i).all (λk=>match ops[k]? with | some a=>zfu ops a o||b.contains k | none=>Od))&&ziK ops os (i+1)
def zeO:Op->Bool
 | .defer _ | .go _ | .select _ _ | .send _ _ | .recv _ _ _=>Oc
 | _=>Od
def zdc (n:Nat):Code->Bool
 | .region _ ops draw=>ops.toList.all (λo=>zwy n o&&zeO o.op)&&(!draw||(zhN ops.toList 0&&ziK ops.toList ops.toList 0))
 | .seq a b=>zdc n a&&zdc n b
 | .cond _ a b=>zdc n a&&zdc n b
 | .block _ c=>zdc n c
 | .loop c=>zdc n c
 | .rangeFunc _ params assign body=>params.toList.all (λp=>p<n)&&zdc n assign&&zdc n body
 | .scope c=>zdc n c
 | _=>Od
structure zgu (G:Emb) (L:zh7) (L':Loop):Prop where
 state:L'.state=L.state
 pending:L.state≠.busy->L'.pending=L.pending
 params:L'.params.toList=L.params
 assign:L'.assign=L.assign
 body:L'.body=L.body
 frame:zj4 G L.fr L'.tmps
 okP:∀ p∈L.params,p<L'.tmps.size
 okA:zdc L'.tmps.size L.assign=Od
 okB:zdc L'.tmps.size L.body=Od
def zoo (base:Nat) (G:Emb) (x:Option zfS) (l:Loc) (w:World):Prop:=
 match x with
 | some (.arr cells ro)=>∃ cc el fz,w.heap[l.c]?=Ob (.cells cc el fz)/\cc.size=l.n/\l.o+cells.length<=l.n /\
  (∀ (i:Nat) (v:zd),cells[i]?=Ob v->∃ v',cc[l.o+i]?=Ob v'/\zal G v v')/\(ro=Oc->fz=(0,0)/\base<=l.c)
 | some (.mp es)=>base<=l.c/\∃ (ces:Array MapEntry) (clk:Nat),w.heap[l.c]?=Ob (.map ces clk)/\ces.size=es.length /\
  ∀ (i:Nat) (k v:zd),es[i]?=Ob (k,v)->∃ e:MapEntry,ces[i]?=Ob e/\zal G k e.key/\zal G v e.val
 | some (.loop L)=>base<=l.c/\∃ L',w.heap[l.c]?=Ob (.loop L')/\zgu G L L'
 | some .dead=>True
 | none=>False
structure H0 (base:Nat) (G:Emb) (h:za) (w:World):Prop where
 clt:∀ b l,G b=Ob l->l.c<w.heap.size
 blk:∀ b l,G b=Ob l->zoo base G (h.get b) l w
 inj:∀ b b' l l',G b=Ob l->G b'=Ob l'->b≠b'->Owns h b->Alive h b'->l.c≠l'.c
 base:base<=w.heap.size
structure zeV (base:Nat) (G:Emb) (h:za) (w:World):Prop extends H0 base G h w where
 lt:∀ b l,G b=Ob l->b<h.next
theorem Owns.alive {h:za} {b:Nat} (ho:Owns h b):Alive h b:=by
 unfold Owns at ho; unfold Alive;cases hg:h.get b with
 | none=>rw [hg] at ho; exact ho.elim
 | some x=>rw [hg] at ho; cases x<;>first | trivial | exact ho.elim
structure zj5 (L L':zh7):Prop where
 fr:L'.fr=L.fr
 params:L'.params=L.params
 assign:L'.assign=L.assign
 body:L'.body=L.body
theorem zj5.refl (L:zh7):zj5 L L:=⟨rfl,rfl,rfl,rfl⟩
theorem zj5.trans {a b c:zh7} (h:zj5 a b) (h':zj5 b c):zj5 a c:=⟨h'.fr.trans h.fr,h'.params.trans h.params,h'.assign.trans h.assign,h'.body.trans h.body⟩
structure Trans (G:Emb) (h:za) (w:World) (G':Emb) (h':za) (w':World):Prop where
 ext:Ext G G'
 size:w.heap.size<=w'.heap.size
 frame:∀ k,k<w.heap.size->(∀ b l,G b=Ob l->Owns h b->l.c≠k)->w'.heap[k]?=w.heap[k]?
 own:∀ b l,G' b=Ob l->Alive h' b->(G b=Ob l/\Alive h b/\(Owns h' b->Owns h b))\/w.heap.size<=l.c\/∃ b0 l0,G b0=Ob l0/\Owns h b0/\l0.c=l.c
 os:w'.os=w.os
 tape:w'.tape=w.tape
 output:w'.output=w.output
 loops:∀ b l L,G b=Ob l->h.get b=Ob (.loop L)->∃ L',h'.get b=Ob (.loop L')/\zj5 L L'
 next:h.next<=h'.next
 dom:∀ b l,G' b=Ob l->G b=Ob l\/(h.next<=b/\b<h'.next)
 junk:∀ b,b<h.next->G b=Oe->h'.get b=h.get b
theorem Trans.same {G:Emb} {h:za} {w w':World} (size:w.heap.size<=w'.heap.size) (frame:∀ k,k<w.heap.size->(∀ b l,G b=Ob l->Owns h b->l.c≠k)->w'.heap[k]?=w.heap[k]?)
 (os:w'.os=w.os) (tape:w'.tape=w.tape) (output:w'.output=w.output):Trans G h w G h w':=
 ⟨.refl G,size,frame,λ_ _ hb ha=>.inl ⟨hb,ha,id⟩,os,tape,output,λ_ _ L _ h=>⟨L,h,.refl L⟩,Nat.le_refl _,λ_ _ hb=>.inl hb,λ_ _ _=>rfl⟩
theorem Trans.refl (G:Emb) (h:za) (w:World):Trans G h w G h w:=.same (Nat.le_refl _) (λ_ _ _=>rfl) rfl rfl rfl
theorem Trans.trans {G G₁ G₂:Emb} {h h₁ h₂:za} {w w₁ w₂:World} (a:Trans G h w G₁ h₁ w₁) (b:Trans G₁ h₁ w₁ G₂ h₂ w₂):Trans G h w G₂ h₂ w₂:=by
 refine ⟨a.ext.trans b.ext,Nat.le_trans a.size b.size,λk hk hb=>?_,λb' l hb' ho=>?_,b.os.trans a.os,b.tape.trans a.tape,b.output.trans a.output,
  λb' l L hb hg=>let ⟨L1,h1,s1⟩:=a.loops b' l L hb hg; let ⟨L2,h2,s2⟩:=b.loops b' l L1 (a.ext _ _ hb) h1; ⟨L2,h2,s1.trans s2⟩,Nat.le_trans a.next b.next,λb' l hb'=>?_,λb' hb' hn=>?_⟩
 . rw [b.frame k (Nat.lt_of_lt_of_le hk a.size) ?_,a.frame k hk hb];intro b1 l1 hb1 ho1 e;rcases a.own b1 l1 hb1 ho1.alive with ⟨h0,_,h2⟩ | h1 | ⟨b0,l0,h0,ho0,e0⟩
   . exact hb b1 l1 h0 (h2 ho1) e
   . omega
   . exact hb b0 l0 h0 ho0 (e0.trans e)
 . rcases b.own b' l hb' ho with ⟨h1,h2,h3⟩ | h1 | ⟨b1,l1,h1,ho1,e1⟩
   . rcases a.own b' l h1 h2 with ⟨g1,g2,g3⟩ | g1 | g1
     . exact .inl ⟨g1,g2,λq=>g3 (h3 q)⟩
     . exact .inr (.inl g1)
     . exact .inr (.inr g1)
   . exact .inr (.inl (Nat.le_trans a.size h1))
   . rcases a.own b1 l1 h1 ho1.alive with ⟨g1,g2,g3⟩ | h2 | ⟨b0,l0,h0,ho0,e0⟩
     . exact .inr (.inr ⟨b1,l1,g1,g3 ho1,e1⟩)
     . exact .inr (.inl (by rw [← e1]; exact h2))
     . exact .inr (.inr ⟨b0,l0,h0,ho0,e0.trans e1⟩)
 . rcases b.dom b' l hb' with h1 | ⟨h1,h2⟩
   . rcases a.dom b' l h1 with g1 | ⟨g1,g2⟩
     . exact .inl g1
     . exact .inr ⟨g1,Nat.lt_of_lt_of_le g2 b.next⟩
   . exact .inr ⟨Nat.le_trans a.next h1,h2⟩
 . have h1:G₁ b'=Oe:=by
    cases hx:G₁ b' with
    | none=>rfl
    | some l=>
     rcases a.dom b' l hx with g | ⟨g,_⟩
     . rw [hn] at g; cases g
     . omega
   rw [b.junk b' (Nat.lt_of_lt_of_le hb' a.next) h1,a.junk b' hb' hn]
theorem Trans.lt {G G':Emb} {h h':za} {w w':World} (t:Trans G h w G' h' w') (hl:∀ b l,G b=Ob l->b<h.next):∀ b l,G' b=Ob l->b<h'.next:=by
 intro b l hb;rcases t.dom b l hb with h1 | ⟨_,h2⟩
 . exact Nat.lt_of_lt_of_le (hl b l h1) t.next
 . exact h2
theorem H0.toH {base:Nat} {G G':Emb} {h h':za} {w w':World} (h0:H0 base G' h' w') (t:Trans G h w G' h' w') (hr:zeV base G h w):zeV base G' h' w':=⟨h0,t.lt hr.lt⟩
theorem zeV.none_next {base:Nat} {G:Emb} {h:za} {w:World} (hr:zeV base G h w):G h.next=Oe:=by
 cases e:G h.next with
 | none=>rfl
 | some l=>exact absurd (hr.lt _ _ e) (Nat.lt_irrefl _)
structure Tab.Ok (T:Tab) (P:Program):Prop where
 types:∀ t i,T.types.get t=Ob i->P.underlying t=Ob i.desc∧∃ j,P.info? t=Ob j∧j.size=i.size∧j.bytes=i.bytes ∧
  (∀ z,i.zero=Ob z->∃ zv,j.zero=Ob zv∧zhM zv=Ob z)∧(i.stood=Oc->P.stoodInHeld t=Oc)∧(i.eqg=Oc->P.eqGuardType P.depth t=Oc)
 funcs : ∀ f F, T.funcs.get f = some F → P.funcs[f]? = some F ∧ (F.name == "runtime.NumGoroutine") = false ∧ (∀ c, F.body = some c → zdc F.ntmps c = true)
 mixed:P.follows .mixedOrders=Od
 consts : ∀ g p, T.consts.get g = some p → (∃ F, P.funcs[g]? = some F ∧ (F.name == "runtime.NumGoroutine") = false ∧ F.body.isSome = true) ∧ ∀ xs v, p xs = some v → ∀ G (xs' : Array Value) w, zcL G xs xs'.toList → Calls P g xs' w fun e w'=>
  ∃ v',e=.returned v'∧zal G v v'∧w.heap.size≤w'.heap.size∧(∀ k,k<w.heap.size->w'.heap[k]?=w.heap[k]?)∧w'.os=w.os∧w'.tape=w.tape∧w'.output=w.output
def Emb.add (G:Emb) (b:Nat) (l:Loc):Emb:=λx=>if x=b then Ob l else G x
theorem Emb.add_same (G:Emb) (b:Nat) (l:Loc):(G.add b l) b=Ob l:=by simp [Emb.add]
theorem Emb.add_ne (G:Emb) (b:Nat) (l:Loc) {x:Nat} (h:x≠b):(G.add b l) x=G x:=by simp [Emb.add,h]
theorem Ext.add {G:Emb} {b:Nat} {l:Loc} (h:G b=Oe):Ext G (G.add b l):=by
 intro x lx hx;by_cases e:x=b
 . subst e; rw [h] at hx; cases hx
 . rw [Emb.add_ne _ _ _ e]; exact hx
theorem zgu.mono {G G':Emb} {L:zh7} {L':Loop} (h:zgu G L L') (e:Ext G G'):zgu G' L L':=
 ⟨h.state,h.pending,h.params,h.assign,h.body,h.frame.mono e,h.okP,h.okA,h.okB⟩
theorem zoo.mono {base:Nat} {G G':Emb} {x:Option zfS} {l:Loc} {w w':World} (h:zoo base G x l w) (e:Ext G G') (hw:w'.heap[l.c]?=w.heap[l.c]?):zoo base G' x l w':=by
 unfold zoo at h ⊢;split
 . obtain ⟨cc,el,fz,h1,h2,h3,h4,h5⟩:=h;exact ⟨cc,el,fz,hw.trans h1,h2,h3,λi v hv=>let ⟨v',a,b⟩:=h4 i v hv; ⟨v',a,b.mono e⟩,h5⟩
 . obtain ⟨h0,ces,clk,h1,h2,h3⟩:=h;exact ⟨h0,ces,clk,hw.trans h1,h2,λi k v hv=>let ⟨en,a,b,c⟩:=h3 i k v hv; ⟨en,a,b.mono e,c.mono e⟩⟩
 . obtain ⟨h0,L',h1,h2⟩:=h;exact ⟨h0,L',hw.trans h1,h2.mono e⟩
 . trivial
 . exact h.elim
theorem H0.heap {base:Nat} {G:Emb} {h:za} {w w':World} (hr:H0 base G h w) (e:w'.heap=w.heap):H0 base G h w':=
 ⟨λb l hb=>by rw [e]; exact hr.clt b l hb,λb l hb=>(hr.blk b l hb).mono (.refl _) (by rw [e]),hr.inj,by rw [e]; exact hr.base⟩
theorem zeV.heap {base:Nat} {G:Emb} {h:za} {w w':World} (hr:zeV base G h w) (e:w'.heap=w.heap):zeV base G h w':=⟨hr.toH0.heap e,hr.lt⟩
theorem Trans.heap {G:Emb} {h:za} {w w':World} (e:w'.heap=w.heap) (h1:w'.os=w.os) (h2:w'.tape=w.tape) (h3:w'.output=w.output):Trans G h w G h w':=
 .same (by rw [e]; exact Nat.le_refl _) (λ_ _ _=>by rw [e]) h1 h2 h3
theorem zj6 {h:za} {x:zfS} {b:Nat} (hb:b≠h.next):Owns (h.push x) b↔Owns h b:=by
 unfold Owns; rw [za.get_push,if_neg hb]
theorem zln {h:za} {x:zfS} {b:Nat} (hb:b≠h.next):Alive (h.push x) b↔Alive h b:=by
 unfold Alive; rw [za.get_push,if_neg hb]
theorem zpg {h:za} {x:zfS} {b b':Nat} (hb:b'≠b):Owns (h.set b x) b'↔Owns h b':=by
 unfold Owns; rw [za.get_set,if_neg hb]
theorem zm5 {h:za} {x:zfS} {b b':Nat} (hb:b'≠b):Alive (h.set b x) b'↔Alive h b':=by
 unfold Alive; rw [za.get_set,if_neg hb]
theorem zl8 {base:Nat} {G:Emb} {h:za} {w:World} (hr:H0 base G h w) (hfresh:G h.next=Oe) (x:zfS) (o:Obj) (w':World) (n:Nat)
 (hw:w'.heap=w.heap.push o) (h1:w'.os=w.os) (h2:w'.tape=w.tape) (h3:w'.output=w.output)
 (hx:zoo base (G.add h.next ⟨w.heap.size,0,n⟩) (Ob x) ⟨w.heap.size,0,n⟩ w') :
 H0 base (G.add h.next ⟨w.heap.size,0,n⟩) (h.push x) w'/\Trans G h w (G.add h.next ⟨w.heap.size,0,n⟩) (h.push x) w':=by
 have he:Ext G (G.add h.next ⟨w.heap.size,0,n⟩):=.add hfresh;have hold:∀ k,k<w.heap.size->w'.heap[k]?=w.heap[k]?:=λk hk=>by
  rw [hw,Array.getElem?_push]; rw [if_neg J]
 have hsz:w'.heap.size=w.heap.size+1:=by rw [hw]; simp
 refine ⟨⟨?_, ?_, ?_,by have:=hr.base; omega⟩,⟨he,by omega,λk hk _=>hold k hk, ?_,h1,h2,h3,λb l L hb hg=>⟨L, ?_,.refl L⟩,Nat.le_succ _,λb l hb=>?_,λb hb _=>?_⟩⟩
 . intro b l hb;by_cases e:b=h.next
   . subst e; rw [Emb.add_same] at hb; cases hb; simp; omega
   . rw [Emb.add_ne _ _ _ e] at hb; have:=hr.clt b l hb; omega
 . intro b l hb;rw [za.get_push];by_cases e:b=h.next
   . subst e; rw [Emb.add_same] at hb; cases hb; rw [if_pos rfl]; exact hx
   . rw [Emb.add_ne _ _ _ e] at hb; rw [if_neg e];exact (hr.blk b l hb).mono he (hold _ (hr.clt b l hb))
 . intro b b' l l' hb hb' hne ho ha;by_cases e:b=h.next
   . have e':b'≠h.next:=λq=>hne (e.trans q.symm);subst e;rw [Emb.add_same] at hb; cases hb;rw [Emb.add_ne _ _ _ e'] at hb';have:=hr.clt b' l' hb';simp; omega
   . rw [Emb.add_ne _ _ _ e] at hb;have hc:=hr.clt b l hb;by_cases e':b'=h.next
     . subst e'; rw [Emb.add_same] at hb'; cases hb'; simp; omega
     . rw [Emb.add_ne _ _ _ e'] at hb';exact hr.inj b b' l l' hb hb' hne ((zj6 e).1 ho) ((zln e').1 ha)
 . intro b l hb ho;by_cases e:b=h.next
   . subst e; rw [Emb.add_same] at hb; cases hb; exact .inr (.inl (Nat.le_refl _))
   . rw [Emb.add_ne _ _ _ e] at hb;exact .inl ⟨hb,(zln e).1 ho,(zj6 e).1⟩
 . rw [za.get_push,if_neg (λq=>by rw [q,hfresh] at hb; cases hb)]; exact hg
 . by_cases e:b=h.next
   . exact .inr ⟨by omega,by simp [za.next_push]; omega⟩
   . rw [Emb.add_ne _ _ _ e] at hb; exact .inl hb
 . rw [za.get_push,if_neg J]
theorem zgW {base:Nat} {G:Emb} {h:za} {w:World} (hr:H0 base G h w) {b:Nat} {l:Loc} (hb:G b=Ob l) (ho:Owns h b) (x:zfS) (w':World)
    (hsz:w'.heap.size=w.heap.size) (hoth:∀ k,k≠l.c->w'.heap[k]?=w.heap[k]?) (h1:w'.os=w.os) (h2:w'.tape=w.tape) (h3:w'.output=w.output)
    (hx:zoo base G (Ob x) l w') (hlp:∀ L,h.get b=Ob (.loop L)->∃ L',x=.loop L'/\zj5 L L'):H0 base G (h.set b x) w'/\Trans G h w G (h.set b x) w':=by
  refine ⟨⟨λb' l' hb'=>by rw [hsz]; exact hr.clt b' l' hb', ?_, ?_,by rw [hsz]; exact hr.base⟩,⟨.refl G,by rw [hsz]; exact Nat.le_refl _, ?_, ?_,h1,h2,h3,λb' l' L hb' hg=>?_,Nat.le_refl _,λ_ _ hb=>.inl hb,λb' hb' hn=>?_⟩⟩
  · intro b' l' hb';rw [za.get_set];by_cases e:b'=b
    · subst e; rw [hb] at hb'; cases hb'; rw [if_pos rfl]; exact hx
    · rw [if_neg e];have hblk:=hr.blk b' l' hb';cases hg:h.get b' with
      | none=>rw [hg] at hblk; exact hblk.elim
      | some y=>
        cases y with
        | dead=>trivial
        | _=>
          rw [hg] at hblk;exact hblk.mono (.refl _) (hoth _ (λq=>hr.inj b b' l l' hb hb' (λq=>e q.symm) ho (by unfold Alive; rw [hg]; trivial) q.symm))
  · intro b1 b2 l1 l2 hb1 hb2 hne ho1 ha2;refine hr.inj b1 b2 l1 l2 hb1 hb2 hne ?_ ?_
    · by_cases e:b1=b
      · rw [e]; exact ho
      · exact (zpg e).1 ho1
    · by_cases e:b2=b
      · rw [e]; exact ho.alive
      · exact (zm5 e).1 ha2
  · intro k _ hk;exact hoth k (λq=>hk b l hb ho q.symm)
  · intro b' l' hb' ha';by_cases e:b'=b
    · subst e; exact .inl ⟨hb',ho.alive,λ_=>ho⟩
    · exact .inl ⟨hb',(zm5 e).1 ha',(zpg e).1⟩
  · rw [za.get_set];by_cases e:b'=b
    · subst e; obtain ⟨L',rfl,hs⟩:=hlp L hg; exact ⟨L',if_pos rfl,hs⟩
    · exact ⟨L,by rw [if_neg e]; exact hg,.refl L⟩
  · rw [za.get_set,if_neg (λq=>by rw [q,hb] at hn; cases hn)]
theorem zph {base:Nat} {G:Emb} {h:za} {w:World} (hr:H0 base G h w) (hfresh:G h.next=Oe) {b:Nat} {l:Loc} (hb:G b=Ob l) (ho:Owns h b) (x:zfS) (o:Nat) (w':World)
    (hsz:w'.heap.size=w.heap.size) (hoth:∀ k,k≠l.c->w'.heap[k]?=w.heap[k]?) (h1:w'.os=w.os) (h2:w'.tape=w.tape) (h3:w'.output=w.output)
    (hx:zoo base (G.add h.next ⟨l.c,o,l.n⟩) (Ob x) ⟨l.c,o,l.n⟩ w') (hlp:∀ L,h.get b≠Ob (.loop L)) :
    H0 base (G.add h.next ⟨l.c,o,l.n⟩) ((h.set b .dead).push x) w'/\Trans G h w (G.add h.next ⟨l.c,o,l.n⟩) ((h.set b .dead).push x) w':=by
  have hnx:(h.set b .dead).next=h.next:=rfl;have he:Ext G (G.add h.next ⟨l.c,o,l.n⟩):=.add hfresh;have hbn:b≠h.next:=λq=>by rw [q,hfresh] at hb; cases hb
  have hdn:∀ b' l',G b'=Ob l'->b'≠h.next:=λb' l' hb' q=>by rw [q,hfresh] at hb'; cases hb'
  have hcl:=hr.clt b l hb;have getp:∀ b',b'≠h.next->((h.set b .dead).push x).get b'=if b'=b then Ob .dead else h.get b':=λb' e=>by
    rw [za.get_push,hnx,if_neg e,za.get_set]
  have ownp:∀ b',b'≠h.next->Owns ((h.set b .dead).push x) b'->b'≠b/\Owns h b':=by
    intro b' e ho';unfold Owns at ho';rw [getp b' e] at ho';by_cases q:b'=b
    · rw [if_pos q] at ho'; exact ho'.elim
    · rw [if_neg q] at ho'; exact ⟨q,ho'⟩
  have alivep:∀ b',b'≠h.next->Alive ((h.set b .dead).push x) b'->b'≠b/\Alive h b':=by
    intro b' e ho';unfold Alive at ho';rw [getp b' e] at ho';by_cases q:b'=b
    · rw [if_pos q] at ho'; exact ho'.elim
    · rw [if_neg q] at ho'; exact ⟨q,ho'⟩
  refine ⟨⟨?_, ?_, ?_,by rw [hsz]; exact hr.base⟩,⟨he,by rw [hsz]; exact Nat.le_refl _, ?_, ?_,h1,h2,h3,λb' l' L hb' hg=>⟨L, ?_,.refl L⟩,Nat.le_succ _,λb' l' hb'=>?_,λb' hb' hn=>?_⟩⟩
  · intro b' l' hb';rw [hsz];by_cases e:b'=h.next
    · subst e; rw [Emb.add_same] at hb'; cases hb'; exact hcl
    · rw [Emb.add_ne _ _ _ e] at hb'; exact hr.clt b' l' hb'
  · intro b' l' hb';by_cases e:b'=h.next
    · subst e; rw [Emb.add_same] at hb'; cases hb';rw [za.get_push,hnx,if_pos rfl]; exact hx
    · rw [Emb.add_ne _ _ _ e] at hb';rw [getp b' e];by_cases q:b'=b
      · rw [if_pos q]; trivial
      · rw [if_neg q];have hblk:=hr.blk b' l' hb';cases hg:h.get b' with
        | none=>rw [hg] at hblk; exact hblk.elim
        | some y=>
          cases y with
          | dead=>trivial
          | _=>
            rw [hg] at hblk;exact hblk.mono he (hoth _ (λz=>hr.inj b b' l l' hb hb' (λz=>q z.symm) ho (by unfold Alive; rw [hg]; trivial) z.symm))
  · intro b1 b2 l1 l2 hb1 hb2 hne ho1 ha2;by_cases e1:b1=h.next
    · have e2:b2≠h.next:=λq=>hne (e1.trans q.symm);subst e1;rw [Emb.add_same] at hb1; cases hb1;rw [Emb.add_ne _ _ _ e2] at hb2;obtain ⟨q,ha⟩:=alivep b2 e2 ha2;exact hr.inj b b2 l l2 hb hb2 (λz=>q z.symm) ho ha
    · rw [Emb.add_ne _ _ _ e1] at hb1;obtain ⟨q1,hh1⟩:=ownp b1 e1 ho1;by_cases e2:b2=h.next
      · subst e2; rw [Emb.add_same] at hb2; cases hb2;exact hr.inj b1 b l1 l hb1 hb q1 hh1 ho.alive
      · rw [Emb.add_ne _ _ _ e2] at hb2;obtain ⟨q2,hh2⟩:=alivep b2 e2 ha2;exact hr.inj b1 b2 l1 l2 hb1 hb2 hne hh1 hh2
  · intro k _ hk;exact hoth k (λq=>hk b l hb ho q.symm)
  · intro b' l' hb' ha';by_cases e:b'=h.next
    · subst e; rw [Emb.add_same] at hb'; cases hb'; exact .inr (.inr ⟨b,l,hb,ho,rfl⟩)
    · rw [Emb.add_ne _ _ _ e] at hb'; exact .inl ⟨hb',(alivep b' e ha').2,λq=>(ownp b' e q).2⟩
  · have hq:¬ b'=b:=λq=>hlp L (by rw [← q]; exact hg);rw [getp b' (hdn b' l' hb'),if_neg hq]; exact hg
  · by_cases e:b'=h.next
    · exact .inr ⟨by omega,by rw [za.next_push,hnx]; omega⟩
    · rw [Emb.add_ne _ _ _ e] at hb'; exact .inl hb'
  · rw [getp b' J,if_neg (λq=>by rw [q,hb] at hn; cases hn)]
theorem Tab.Ok.und {T:Tab} {P:Program} (ok:T.Ok P) {t:TypeId} {d:TypeDesc} (h:T.und t=Ob d):P.underlying t=Ob d:=by
 unfold Tab.und at h;cases hg:T.types.get t with
 | none=>rw [hg] at h; cases h
 | some i=>rw [hg] at h; cases h; exact (ok.types t i hg).1
theorem Tab.Ok.size {T:Tab} {P:Program} (ok:T.Ok P) {t:TypeId} {n:Nat} (h:szT T t=Ob n):∃ j,P.info? t=Ob j/\j.size=n:=by
 unfold szT at h;cases hg:T.types.get t with
 | none=>rw [hg] at h; cases h
 | some i=>rw [hg] at h; cases h; obtain ⟨_,j,hj,hs,_⟩:=ok.types t i hg; exact ⟨j,hj,hs⟩
theorem Tab.Ok.zero {T:Tab} {P:Program} (ok:T.Ok P) {t:TypeId} {z:zd} (h:zeS T t=Ob z):∃ j zv,P.info? t=Ob j/\j.zero=Ob zv/\zhM zv=Ob z:=by
 unfold zeS at h;cases hg:T.types.get t with
 | none=>rw [hg] at h; cases h
 | some i=>
  rw [hg] at h;obtain ⟨_,j,hj,_,_,hz,_⟩:=ok.types t i hg;obtain ⟨zv,hz1,hz2⟩:=hz z h;exact ⟨j,zv,hj,hz1,hz2⟩
theorem zj {P:Program} {t:TypeId} {d:TypeDesc} (h:P.underlying t=Ob d) (w:World):(underlying t).run P w=.ok d w:=by
 simp [underlying,h]
theorem zaj {P:Program} {t:TypeId} {j:TypeInfo} (h:P.info? t=Ob j) (w:World):(sizeOf t).run P w=.ok j.size w:=by
 simp [sizeOf,typeInfo,h]
theorem zdP {P:Program} {t:TypeId} {j:TypeInfo} {z:Value} (h:P.info? t=Ob j) (hz:j.zero=Ob z) (w:World):(zeroValue t).run P w=.ok z w:=by
 simp [zeroValue,typeInfo,h,hz]
theorem zfv {T:Tab} {P:Program} (ok:T.Ok P) {t:TypeId} {b:Bool} (h:zeb T t=Ob b) (w:World):(isAgg t).run P w=.ok b w:=by
 unfold zeb at h;split at h
 . rename_i hu; cases h; simp [isAgg,zj (ok.und hu)]
 . rename_i hu; cases h; simp [isAgg,zj (ok.und hu)]
 . rename_i d h1 h2 hu;cases h;have hd:=ok.und hu;cases d<;>first | (simp [isAgg,zj hd]; done) | (exact absurd rfl (h1 _)) | (exact absurd rfl (h2 _ _))
 . cases h
def VOk (P:Program) (base:Nat) (G:Emb) (h:za) (w:World) (s:Sem Value) (v:zd) (h':za):Prop:=
 ∃ v' w' G',s.run P w=.ok v' w'/\zal G' v v'/\H0 base G' h' w'/\Trans G h w G' h' w'
def UOk (P:Program) (base:Nat) (G:Emb) (h:za) (w:World) (s:Sem Unit) (h':za):Prop:=
 ∃ w' G',s.run P w=.ok () w'/\H0 base G' h' w'/\Trans G h w G' h' w'
theorem VOk.pure {P:Program} {base:Nat} {G:Emb} {h:za} {w:World} {s:Sem Value} {v:zd} {v':Value} (hr:H0 base G h w) (hs:s.run P w=.ok v' w) (hv:zal G v v'):VOk P base G h w s v h:=
 ⟨v',w,G,hs,hv,hr,.refl G h w⟩
section
variable {T:Tab} {P:Program} (ok:T.Ok P) {base:Nat} {G:Emb} {h:za} {w:World}
theorem zm6 (hr:H0 base G h w) {b:Nat} {l:Loc} {cells:List zd} {ro:Bool} (hb:G b=Ob l) (hg:h.get b=Ob (.arr cells ro)) :
 ∃ cc el fz,w.heap[l.c]?=Ob (.cells cc el fz)/\cc.size=l.n/\l.o+cells.length<=l.n/\zcL G cells ((cc.toList.drop l.o).take cells.length)/\(ro=Oc->fz=(0,0)/\base<=l.c):=by
 have hblk:=hr.blk b l hb;rw [hg] at hblk;obtain ⟨cc,el,fz,h1,h2,h3,h4,h5⟩:=hblk;refine ⟨cc,el,fz,h1,h2,h3,⟨?_, ?_⟩,h5⟩
 . rw [List.length_take,List.length_drop];have:cc.toList.length=cc.size:=rfl;omega
 . intro i v v' hv hv';obtain ⟨u,hu,hvu⟩:=h4 i v hv;have hi:i<cells.length:=(List.getElem?_eq_some_iff.1 hv).1;rw [List.getElem?_take,if_pos hi,List.getElem?_drop,Array.getElem?_toList,hu] at hv';cases hv'; exact hvu
theorem zgX {G:Emb} {cells:List zd} {cc:Array Value} {o:Nat} (hl:zcL G cells ((cc.toList.drop o).take cells.length)) (off n:Nat) (hn:off+n<=cells.length) (_hc:o+cells.length<=cc.size) :
 zcL G ((cells.drop off).take n) ((cc.toList.drop (o+off)).take n):=by
 have:=(hl.drop off).take n;have e:(((cc.toList.drop o).take cells.length).drop off).take n=((cc.toList.drop (o+off)).take n):=by
  rw [List.drop_take,List.drop_drop,List.take_take];congr 1;omega
 rw [e] at this;exact this
theorem zgY (w:World) (c o n:Nat) (cc:Array Value) (el:TypeId) (fz:Nat×Nat) (hg:w.heap[c]?=Ob (.cells cc el fz)) :
 ∀ j v,((cc.toList.drop o).take n)[j]?=Ob v->w.cell? ((⟨c,o,Oe⟩:Addr).add j)=Ob v:=by
 intro j v hv;rw [Addr.add_lit,cell_of_row w c (o+j) cc el fz hg];rw [List.getElem?_take] at hv;split at hv
 . rw [List.getElem?_drop,Array.getElem?_toList] at hv; exact hv
 . cases hv
theorem zj7 (w:World) (c o n:Nat) (cc:Array Value) (el:TypeId) (fz:Nat×Nat) (hg:w.heap[c]?=Ob (.cells cc el fz)) (hn:o+n<=cc.size) :
 (loadCells ⟨c,o,Oe⟩ n).run P w=.ok ((cc.toList.drop o).take n).toArray w:=by
 have h:=run_loadCells_list (P:=P) w ⟨c,o,Oe⟩ ((cc.toList.drop o).take n) (zgY w c o n cc el fz hg);have e:((cc.toList.drop o).take n).length=n:=by rw [List.length_take,List.length_drop,Array.length_toList]; omega
 rw [e] at h;exact h
include ok in
theorem zwz {t:TypeId} {a v:zd} {a':Value} (hr:H0 base G h w) (ha:zal G a a') (hl:aload T t h a=Ob v):VOk P base G h w (Instr.loadAt t a') v h:=by
 unfold aload at hl;split at hl
 case h_2=>cases hl
 rename_i b off;cases ha with
 | ptr _ _ l hb=>
 split at hl
 case h_2=>cases hl
 rename_i cells ro hg;obtain ⟨cc,el,fz,h1,h2,h3,h4,h5⟩:=zm6 hr hb hg;unfold apart at hl;split at hl
 . rename_i hagg;split at hl
   . rename_i n hn;split at hl
     . rename_i hle;cases hl;obtain ⟨j,hj,hjs⟩:=ok.size hn;refine .pure (v':=.agg ((cc.toList.drop (l.o+off)).take n).toArray) hr ?_ (.agg' (zgX h4 off n hle J));simp only [Instr.loadAt,Instr.sureAddr,loadVar,Sem.run_bind,Sem.run_pure,Result.andThen_ok,zfv ok hagg,if_true,zaj hj,hjs];rw [zj7 w l.c (l.o+off) n cc el fz h1 J];rfl
     . cases hl
   . cases hl
 . rename_i hagg;have hi:off<cells.length:=(List.getElem?_eq_some_iff.1 hl).1;obtain ⟨v',hv',hvv⟩:=h4.at hl;rw [List.getElem?_take,if_pos hi,List.getElem?_drop,Array.getElem?_toList] at hv';refine .pure (v':=v') hr ?_ hvv;simp only [Instr.loadAt,Instr.sureAddr,loadVar,Sem.run_bind,Sem.run_pure,Result.andThen_ok,zfv ok hagg,Bool.false_eq_true,if_false,run_load];rw [cell_of_row w l.c (l.o+off) cc el fz h1,hv']
 . cases hl
theorem zlo {G:Emb} {cells:List zd} {cc:Array Value} {o off:Nat} {vs:List zd} {vs':List Value} (hl:zcL G cells ((cc.toList.drop o).take cells.length)) (hc:o+cells.length<=cc.size)
 (hv:zcL G vs vs') (hle:off+vs.length<=cells.length) :
 ∀ (i:Nat) (v:zd),(splice cells off vs)[i]?=Ob v->∃ v',((cc.toList.take (o+off)++vs'++cc.toList.drop (o+off+vs'.length)).toArray)[o+i]?=Ob v'/\zal G v v':=by
 intro i v hi;have hlen:=hv.1;unfold splice at hi;have e1:(cells.take off).length=off:=by rw [List.length_take]; omega
 have e2:(cc.toList.take (o+off)).length=o+off:=by rw [List.length_take,Array.length_toList]; omega
 simp only [List.getElem?_toArray];rw [List.append_assoc] at hi ⊢;by_cases c1:i<off
 . rw [List.getElem?_append_left J,List.getElem?_take,if_pos c1] at hi;obtain ⟨v',hv',hvv⟩:=hl.at hi;rw [List.getElem?_take,if_pos J,List.getElem?_drop] at hv';refine ⟨v', ?_,hvv⟩;rw [List.getElem?_append_left J,List.getElem?_take,if_pos J];exact hv'
 . rw [List.getElem?_append_right J,e1] at hi;by_cases c2:i-off<vs.length
   . rw [List.getElem?_append_left c2] at hi;obtain ⟨v',hv',hvv⟩:=hv.at hi;refine ⟨v', ?_,hvv⟩;rw [List.getElem?_append_right J,e2,List.getElem?_append_left J];rw [show o+i-(o+off)=i-off from by omega];exact hv'
   . rw [List.getElem?_append_right J,List.getElem?_drop] at hi;have hi':i<cells.length:=by have:=(List.getElem?_eq_some_iff.1 hi).1; omega
     rw [show off+vs.length+(i-off-vs.length)=i from by omega] at hi;obtain ⟨v',hv',hvv⟩:=hl.at hi;rw [List.getElem?_take,if_pos hi',List.getElem?_drop] at hv';refine ⟨v', ?_,hvv⟩;rw [List.getElem?_append_right J,e2,List.getElem?_append_right J,List.getElem?_drop];rw [show o+off+vs'.length+(o+i-(o+off)-vs'.length)=o+i from by omega];exact hv'
theorem zgv {cells vs:List zd} {off:Nat} (hle:off+vs.length<=cells.length):(splice cells off vs).length=cells.length:=by
 unfold splice; simp; omega
theorem zl9 {G:Emb}:∀ {vs:List zd} {vs':List Value},zcL G vs vs'->vs.all zd.one=Od->∀ v∈vs',v.oneCell'=Od
 | [],vs',h,_,v,hv=>by rw [h.nil_inv] at hv; cases hv
 | x::xs,vs',h,ho,v,hv=>by
  obtain ⟨y,ys,rfl,h1,h2⟩:=h.cons_inv;simp only [List.all_cons,Bool.and_eq_true] at ho;rcases List.mem_cons.1 hv with rfl | hm
  . have:=h1.one ho.1;cases v<;>first | rfl | exact this
  . exact zl9 h2 ho.2 v hm
theorem zj8 {b:Nat} {l:Loc} {cells:List zd} {off:Nat} {vs:List zd} {vs':List Value} (hr:H0 base G h w) (hb:G b=Ob l) (hg:h.get b=Ob (.arr cells Oc))
 (hv:zcL G vs vs') (hle:off+vs.length<=cells.length) (hone:vs.all zd.one=Od) :
 ∃ w',(storeCells ⟨l.c,l.o+off,Oe⟩ vs').run P w=.ok () w'/\H0 base G (h.set b (.arr (splice cells off vs) Oc)) w'/\Trans G h w G (h.set b (.arr (splice cells off vs) Oc)) w':=by
 obtain ⟨cc,el,fz,h1,h2,h3,h4,h5⟩:=zm6 hr hb hg;obtain ⟨rfl,hbase⟩:=h5 rfl;have hst:=run_storeCells_at P l.c (l.o+off) el vs' 0 cc w h1 (by have:=hv.1; omega) (zl9 hv hone);simp only [Nat.add_zero] at hst;have ho:Owns h b:=by unfold Owns; rw [hg]; trivial
 refine ⟨_,hst, ?_⟩;refine zgW hr hb ho _ _ Ol (λk hk=>setRow_other w l.c k _ hk) rfl rfl rfl ?_ (by rw [hg]; simp);refine ⟨_,el,(0,0),setRow_heap w l.c cc _ el _ h1, ?_, ?_,zlo h4 J hv hle,λ_=>⟨rfl,hbase⟩⟩
 . have:=hv.1;simp; omega
 . rw [zgv hle]; omega
include ok in
theorem zt0 {t:TypeId} {a v:zd} {a' v':Value} {h':za} (hr:H0 base G h w) (ha:zal G a a') (hv:zal G v v') (hl:astore T t h a v=Ob h'):UOk P base G h w (Instr.storeAt t a' v') h':=by
 unfold astore at hl;split at hl
 case h_2=>cases hl
 rename_i b off;cases ha with
 | ptr _ _ l hb=>
 split at hl
 case h_2=>cases hl
 rename_i cells hg;split at hl
 case h_2=>cases hl
 rename_i n hn;split at hl
 case isFalse=>cases hl
 rename_i hc;obtain ⟨hc1,hc2,hc3⟩:=hc;cases hl;obtain ⟨j,hj,hjs⟩:=ok.size hn;have hu:v≠.undef:=by
  rintro rfl
  simp [zd.cells,zd.one] at hc3
 have hcs:=hv.cells hu;obtain ⟨w',hst,hr',htr⟩:=zj8 (P:=P) (off:=off) hr hb hg hcs J hc3;refine ⟨w',G, ?_,hr',htr⟩;have hlen:=hcs.1;have hsz:v'.cells.size=n:=by rw [← hc1,hlen]; simp
 simp only [Instr.storeAt,Instr.sureAddr,storeVar,Sem.run_bind,Sem.run_pure,Result.andThen_ok,zaj hj,hjs,hsz,ne_eq,not_true_eq_false,if_false];exact hst
def cval:zd->Value
 | .int k n=>.int k n
 | .bool b=>.bool b
 | _=>undef
theorem zop {op:BinOp} {k:IntKind} {a b:Int} {v:zd} (t:TypeId) (hl:aint op k a b=Ob v) :
 (binOp op t (.int k a) (.int k b)).run P w=.ok (cval v) w/\zal G v (cval v):=by
 cases op<;>simp only [aint] at hl<;>(try split at hl)<;>(try cases hl);all_goals refine ⟨?_,by first | exact .int _ _ | exact .bool _⟩
 all_goals simp only [binOp,cval]
 all_goals first
  | (simp [Op.intArith]; done)
  | (simp [Op.intCmp]; done)
  | (simp [Op.intDiv, *]; done)
  | (simp [Op.intBits]; done)
  | (simp [Op.shift, *]; done)
include ok in
theorem zj9 {t:TypeId} {cs:List zd} {cs':Array Value} {off:Nat} {v:zd} (hc:zcL G cs cs'.toList) (hl:apart T t cs off=Ob v) :
 ∃ v',(part t cs' off).run P w=.ok v' w/\zal G v v':=by
 unfold apart at hl;split at hl
 . rename_i hagg;split at hl
   case h_2=>cases hl
   rename_i n hn;split at hl
   case isFalse=>cases hl
   cases hl;obtain ⟨j,hj,hjs⟩:=ok.size hn;refine ⟨.agg (cs'.extract off (off+n)), ?_, ?_⟩
   . simp [part,zfv ok hagg,zaj hj,hjs]
   . have:=zal.agg' ((hc.drop off).take n);have e:((cs'.toList.drop off).take n).toArray=cs'.extract off (off+n):=by
      apply Array.ext';simp [Array.toList_extract,List.extract_eq_take_drop]
     rw [e] at this;exact this
 . rename_i hagg;obtain ⟨v',hv',hvv⟩:=hc.at hl;refine ⟨v', ?_,hvv⟩;rw [Array.getElem?_toList] at hv';simp [part,zfv ok hagg,hv']
 . cases hl
end
section
variable {T:Tab} {P:Program} (ok:T.Ok P) {base:Nat} {G:Emb} {h:za} {w:World}
include ok in
theorem zrq:∀ (d:Nat) (t:TypeId) (x y:zd) (x' y':Value) (r:Bool) (D:Nat),d≤D->zal G x x'->zal G y y'->aeq T d t x y=Ob r->(Op.equalIn D t x' y').run P w=.ok r w
  | 0,_,_,_,_,_,_,_,_,_,_,h=>by simp [aeq] at h
  | d+1,t,x,y,x',y',r,D,hD,hx,hy,h=>by
    obtain ⟨D,rfl⟩:∃ E,D=E+1:=⟨D-1,by omega⟩;simp only [aeq] at h;split at h
    case h_18=>
      rename_i fields xs ys ht;split at h
      · cases h
      rename_i hst;obtain ⟨xs',rfl,hxs⟩:=hx.agg_inv;obtain ⟨ys',rfl,hys⟩:=hy.agg_inv;have hu:=ok.und ht;have hf:P.fieldsOf t=fields:=by simp [Program.fieldsOf,hu]
      have hp:P.stoodInHeld t=Oc:=by
        cases hg:T.types.get t with
        | none=>rw [hg] at hst; simp at hst
        | some i=>
          rw [hg] at hst;simp at hst;obtain ⟨_,j,_,_,_,_,hs,_⟩:=ok.types t i hg;exact hs hst
      rw [run_equalIn_struct w D t xs' ys' (by rw [hf]; exact hu) hp,hf];revert h;generalize fields.toList=fs;intro h;clear ht hst hu hf;induction fs with
      | nil=>simp only [zdr] at h; cases h; rfl
      | cons f fs ih=>
        simp only [zdr] at h;simp only [Op.eqFields]
        by_cases hn : f.name ≠ "_"
        · rw [if_pos hn] at h;rw [if_pos hn];cases ha:apart T f.type xs f.offset with
          | none=>simp [ha] at h
          | some u=>
            cases hb:apart T f.type ys f.offset with
            | none=>simp [ha,hb] at h
            | some v=>
              simp only [ha,hb] at h;obtain ⟨u',hu1,hu2⟩:=zj9 ok (w:=w) hxs ha;obtain ⟨v',hv1,hv2⟩:=zj9 ok (w:=w) hys hb;cases he:aeq T d f.type u v with
              | none=>simp [he] at h
              | some q=>
                have hq:=zrq d f.type u v u' v' q D J hu2 hv2 he;simp only [he] at h;simp only [Sem.run_bind,hu1,hv1,hq,Result.andThen_ok];cases q with
                | true=>simp only [Bool.not_true,Bool.false_eq_true,if_false]; exact ih h
                | false=>simp at h; subst h; simp
        · rw [if_neg hn] at h;rw [if_neg hn];exact ih h
    case h_19=>cases h
    all_goals
      rename_i ht;have hu:=ok.und ht;cases hx;cases hy
    all_goals first
      | (simp only [Option.some.injEq] at h; subst h; simp [Op.equalIn,zj hu]; done)
      | (split at h
         · rename_i hk;cases h;simp [Op.equalIn,zj hu,hk]
         · cases h)
      | skip
theorem zoq (op:BinOp) (t:TypeId) (X Y:Operand) (k k':IntKind) (a b:Int):(eqGuard op t X Y (.int k a) (.int k' b)).run P w=.ok () w:=by
 cases op<;>rfl
include ok in
theorem zm7 {op:BinOp} {t:TypeId} (X Y:Operand) {x y:zd} {x' y':Value} (hop:op=.eql\/op=.neq) (hx:zal G x x') (hy:zal G y y') (h:aguard T t x y=Od):(eqGuard op t X Y x' y').run P w=.ok () w:=by
 unfold aguard at h;split at h
 . cases hx;split at h
   . cases h
   . cases h
   . rename_i hne hnu;rcases hop with rfl | rfl<;>cases hy<;>first | (exact (hne rfl).elim) | (exact (hnu rfl).elim) | rfl
 . cases hx; cases hy;cases hg:T.types.get t with
   | none=>rw [hg] at h; simp at h
   | some i=>
    rw [hg] at h;simp at h;obtain ⟨_,j,_,_,_,_,_,he⟩:=ok.types t i hg;exact run_eqGuard_agg w op t X Y _ _ (he h)
 . cases h
 . cases h
 . rename_i h1 h2 h3 h4;rcases hop with rfl | rfl<;>cases hx<;>first
    | rfl
    | (exact absurd rfl h3)
    | (exact (h1 rfl).elim)
    | (exact (h2 rfl).elim)
    | (cases hy<;>first | rfl | (exact (h3 rfl).elim) | (exact (h4 _ _ rfl rfl).elim))
theorem zma {t:TypeId} {x y:Value} (hi:∀ k a k' b,¬ (x=.int k a/\y=.int k' b)) (hs:∀ a b,¬ (x=.string a/\y=.string b)) {r:Bool}
 (hf:∀ k a k' b,¬ (x=.float k a/\y=.float k' b)) (hc:∀ k a b k' c d,¬ (x=.complex k a b/\y=.complex k' c d))
 (he:(Op.equalIn 10000 t x y).run P w=.ok r w):(binOp .eql t x y).run P w=.ok (.bool r) w/\(binOp .neq t x y).run P w=.ok (.bool (!r)) w:=by
 have e:(Op.equal t x y).run P w=.ok r w:=he;constructor;all_goals
  unfold binOp;split<;>first
   | (rename_i h1 h2; cases h1; done)
   | (exfalso; exact hi _ _ _ _ ⟨rfl,rfl⟩)
   | (exfalso; exact hs _ _ ⟨rfl,rfl⟩)
   | (exfalso; exact hf _ _ _ _ ⟨rfl,rfl⟩)
   | (exfalso; exact hc _ _ _ _ _ _ ⟨rfl,rfl⟩)
   | (simp [e]; done)
   | (simp_all; done)
include ok in
theorem zy3 {op:BinOp} {t:TypeId} (X Y:Operand) {x y v:zd} {x' y':Value} (hx:zal G x x') (hy:zal G y y') (hl:abin T op t x y=Ob v) :
    ∃ v',(do eqGuard op t X Y x' y'; binOp op t x' y':Sem Value).run P w=.ok v' w/\zal G v v':=by
  unfold abin at hl;split at hl
  · rename_i k a k' b;cases hx; cases hy;simp only [Sem.run_bind,zoq,Result.andThen_ok];split at hl
    · obtain ⟨h1,h2⟩:=zop (P:=P) (w:=w) (G:=G) t hl;exact ⟨_,by simp only [binOp,Op.shift] at h1 ⊢; exact h1,h2⟩
    · obtain ⟨h1,h2⟩:=zop (P:=P) (w:=w) (G:=G) t hl;exact ⟨_,by simp only [binOp,Op.shift] at h1 ⊢; exact h1,h2⟩
    · split at hl
      · rename_i hk;subst hk;obtain ⟨h1,h2⟩:=zop (P:=P) (w:=w) (G:=G) t hl;exact ⟨_,h1,h2⟩
      · cases hl
  · cases hl
  · rename_i hni hns;have main:∀ r:Bool,aguard T t x y=Od->aeq T 8 t x y=Ob r->(binOp .eql t x' y').run P w=.ok (.bool r) w/\(binOp .neq t x' y').run P w=.ok (.bool (!r)) w:=by
      intro r hg he;have hu1:x≠.undef:=by rintro rfl; simp [aeq] at he
      have hu2:y≠.undef:=by
        rintro rfl
        cases x<;>simp [aeq] at he
      refine zma ?_ ?_ ?_ ?_ (zrq ok 8 t x y x' y' r 10000 J hx hy he)
      · rintro k a k' b ⟨rfl,rfl⟩
        cases hx<;>first | (exact hu1 rfl) | (cases hy<;>first | (exact hu2 rfl) | (exact hni _ _ _ _ rfl rfl))
      · rintro a b ⟨rfl,rfl⟩
        cases hx<;>first | (exact hu1 rfl) | (cases hy<;>first | (exact hu2 rfl) | (exact hns _ _ rfl rfl))
      · rintro k a k' b ⟨rfl,rfl⟩
        cases hx
        · exact hu1 rfl
        · simp [aeq] at he
      · rintro k a b k' c d ⟨rfl,rfl⟩
        cases hx; exact hu1 rfl
    split at hl
    · split at hl
      · rename_i hg;cases he:aeq T 8 t x y with
        | none=>rw [he] at hl; cases hl
        | some r=>
          rw [he] at hl; cases hl;refine ⟨.bool r, ?_,.bool r⟩;simp only [Sem.run_bind,zm7 ok X Y (.inl rfl) hx hy hg,Result.andThen_ok,(main r hg he).1]
      · cases hl
    · split at hl
      · rename_i hg;cases he:aeq T 8 t x y with
        | none=>rw [he] at hl; cases hl
        | some r=>
          rw [he] at hl; cases hl;refine ⟨.bool (!r), ?_,.bool _⟩;simp only [Sem.run_bind,zm7 ok X Y (.inr rfl) hx hy hg,Result.andThen_ok,(main r hg he).2]
      · cases hl
    · cases hl
theorem zAW {op:UnOp} {x v:zd} {x':Value} (hx:zal G x x') (hl:aun op x=Ob v):∃ v',(Op.unary op x').run P w=.ok v' w/\zal G v v':=by
 unfold aun at hl;split at hl
 . cases hx;simp only [aint] at hl;cases hl;exact ⟨_,by simp [Op.unary,Op.intArith],.int _ _⟩
 . cases hx;simp only [aint] at hl;cases hl;exact ⟨_,by simp [Op.unary,Op.intBits],.int _ _⟩
 . cases hx;cases hl;exact ⟨_,by simp [Op.unary],.bool _⟩
 . cases hl
end
section
variable {T:Tab} {P:Program} (ok:T.Ok P) {base:Nat} {G:Emb} {h:za} {w:World}
include ok in
theorem zm8 {s:TypeId} {x v:zd} {x':Value} {i:Nat} (hx:zal G x x') (hl:zft T s x i=Ob v):∃ v',(Instr.fieldAt s x' i).run P w=.ok v' w/\zal G v v':=by
 unfold zft at hl;split at hl
 case h_2=>cases hl
 rename_i fields hu;split at hl
 case h_2=>cases hl
 rename_i f hf;split at hl
 case h_2=>cases hl
 rename_i n b off hn;split at hl
 . cases hl
 rename_i hn0;cases hl;cases hx with
 | ptr _ _ l hb=>
 obtain ⟨j,hj,hjs⟩:=ok.size hn;refine ⟨.pointer (Ob ⟨l.c,l.o+(off+f.offset),Oe⟩), ?_,.ptr b (off+f.offset) l hb⟩;simp only [Instr.fieldAt,Sem.run_bind,zj (ok.und hu),Result.andThen_ok,hf,Instr.sureAddr,Sem.run_pure,fieldPlace,zaj hj,hjs,if_neg hn0,Addr.add_lit,Nat.add_assoc]
include ok in
theorem zm9 {t:TypeId} {x ix v:zd} {x' ix':Value} (hx:zal G x x') (hi:zal G ix ix') (hl:zdy T t x ix=Ob v):∃ v',(Instr.indexAt t x' ix').run P w=.ok v' w/\zal G v v':=by
 unfold zdy at hl;split at hl
 case h_2=>cases hl
 rename_i k i;cases hi;split at hl
 . rename_i len elem b off hu;split at hl
   case h_2=>cases hl
   rename_i n hn;split at hl
   case isFalse=>cases hl
   rename_i hb;cases hl;cases hx with
   | ptr _ _ l hb'=>
   obtain ⟨j,hj,hjs⟩:=ok.size hn;refine ⟨.pointer (Ob ⟨l.c,l.o+(off+i.toNat*n),Oe⟩), ?_,.ptr b _ l hb'⟩;have h1:(0<=i/\i<(len:Int)):=hb;simp only [Instr.indexAt,asIntOf,Sem.run_bind,Sem.run_pure,zj (ok.und hu),Result.andThen_ok,Instr.sureAddr,zaj hj,hjs,if_pos h1,Sem.run_ite,Addr.add_lit,Nat.add_assoc]
 . rename_i elem b off len es cap hu;split at hl
   case h_2=>cases hl
   rename_i n hn;split at hl
   case isFalse=>cases hl
   rename_i hb;cases hl;cases hx with
   | slice _ _ _ _ _ l a ccap hb' hlen hcap hoff=>
   obtain ⟨j,hj,hjs⟩:=ok.size hn;have h1:(0<=i/\i<(len:Int)):=⟨hb.1,hb.2.1⟩;have h2:a=⟨l.c,l.o+off,Oe⟩:=by
    rcases hoff with h0 | ⟨h2,_⟩
    . omega
    . exact h2
   subst h2;refine ⟨.pointer (Ob ⟨l.c,l.o+(off+i.toNat*n),Oe⟩), ?_,.ptr b _ l hb'⟩;simp only [Instr.indexAt,asIntOf,Sem.run_bind,Sem.run_pure,zj (ok.und hu),Result.andThen_ok,zaj hj,hjs,if_pos h1,Sem.run_ite,Addr.add_lit,Nat.add_assoc]
 . cases hl
include ok in
theorem zt1 {t:TypeId} {x ix v:zd} {x' ix':Value} (hx:zal G x x') (hi:zal G ix ix') (hl:aindex T t x ix=Ob v):∃ v',(Instr.index t x' ix').run P w=.ok v' w/\zal G v v':=by
 unfold aindex at hl;split at hl
 case h_2=>cases hl
 rename_i k i;cases hi;split at hl
 case h_3=>cases hl
 case h_2=>
  rename_i s hu;split at hl
  case isFalse=>cases hl
  rename_i h0;cases hx;cases hb:s[i.toNat]? with
  | none=>rw [hb] at hl; cases hl
  | some b=>
   rw [hb] at hl;cases hl;refine ⟨_, ?_,.int _ _⟩;simp only [Instr.index,asIntOf,Sem.run_bind,Sem.run_pure,zj (ok.und hu),Result.andThen_ok,if_pos h0,hb]
 rename_i len elem cs hu;split at hl
 case h_2=>cases hl
 rename_i n hn;split at hl
 case isFalse=>cases hl
 rename_i hb;obtain ⟨cs',rfl,hcs⟩:=hx.agg_inv;obtain ⟨j,hj,hjs⟩:=ok.size hn;obtain ⟨v',hv',hvv⟩:=zj9 ok (w:=w) hcs hl;refine ⟨v', ?_,hvv⟩;have h1:(0<=i/\i<(len:Int)):=hb;simp only [Instr.index,asIntOf,Sem.run_bind,Sem.run_pure,zj (ok.und hu),Result.andThen_ok,zaj hj,hjs,if_pos h1,Sem.run_ite];exact hv'
include ok in
theorem zt2 {t:TypeId} {x v:zd} {x':Value} {i:Nat} (hx:zal G x x') (hl:afield T t x i=Ob v):∃ v',(Instr.field t x' i).run P w=.ok v' w/\zal G v v':=by
 unfold afield at hl;split at hl
 case h_2=>cases hl
 rename_i fields hu;split at hl
 case h_2=>cases hl
 rename_i f cs hf;obtain ⟨cs',rfl,hcs⟩:=hx.agg_inv;obtain ⟨v',hv',hvv⟩:=zj9 ok (w:=w) hcs hl;refine ⟨v', ?_,hvv⟩;simp only [Instr.field,Sem.run_bind,zj (ok.und hu),Result.andThen_ok,hf,asAgg,Sem.run_pure];exact hv'
include ok in
theorem zqq {src dst:TypeId} {x v:zd} {x':Value} (hx:zal G x x') (hl:aconvert T src dst x=Ob v):∃ v',(convert src dst x').run P w=.ok v' w/\zal G v v':=by
 unfold aconvert at hl;split at hl
 case h_4=>cases hl
 . rename_i d k k' n hs hu;cases hl;cases hx;refine ⟨_, ?_,.int _ _⟩;simp only [convert,Sem.run_bind,zj (ok.und hs),zj (ok.und hu),Result.andThen_ok];cases d<;>rfl
 . rename_i d k k' n hs hu;cases hl;cases hx;refine ⟨_, ?_,.float _ _⟩;simp only [convert,Sem.run_bind,zj (ok.und hs),zj (ok.und hu),Result.andThen_ok];cases d<;>rfl
 . rename_i d k f b hs hu;cases hx;split at hl
   case h_2=>cases hl
   rename_i n hn;split at hl
   case isFalse=>cases hl
   rename_i hr;cases hl;refine ⟨_, ?_,.int _ _⟩;have e:(Conv.floatToInt f b k).run P w=.ok (.int k n) w:=by
    unfold Conv.floatToInt;simp only [hn,if_pos hr];rfl
   simp only [convert,Sem.run_bind,zj (ok.und hs),zj (ok.und hu),Result.andThen_ok];cases d<;>exact e
theorem zem (n:Nat) (z:List zd):(copies n z).length=n*z.length:=by
 induction n with
 | zero=>simp [copies]
 | succ n ih=>simp [copies,ih,Nat.succ_mul]; omega
theorem zlp {G:Emb} {z:List zd} {z':Array Value} (hz:zcL G z z'.toList) (h0:0<z.length):∀ n,zcL G (copies n z) ((Array.range (n*z.length)).map (λi=>z'[i%z'.size]!)).toList:=by
 intro n;have hs:z.length=z'.size:=by rw [hz.1]; simp
 refine ⟨by simp [zem], ?_⟩;intro i v v' hv hv';have hi:i<n*z.length:=by rw [← zem]; exact (List.getElem?_eq_some_iff.1 hv).1
 have key:∀ (n i:Nat),i<n*z.length->(copies n z)[i]?=z[i%z.length]?:=by
  intro n;induction n with
  | zero=>intro i hi; simp at hi
  | succ n ih=>
   intro i hi;simp only [copies];by_cases c:i<z.length
   . rw [List.getElem?_append_left c,Nat.mod_eq_of_lt c]
   . rw [List.getElem?_append_right J,ih (i-z.length) (by rw [Nat.succ_mul] at hi; omega)];congr 1;rw [← Nat.mod_eq_sub_mod J]
 rw [key n i hi] at hv;have hr:(List.range (n*z.length))[i]?=Ob i:=List.getElem?_range hi;simp [hr] at hv';subst hv';have hm:i%z.length<z.length:=Nat.mod_lt _ h0;have:=hz.2 (i%z.length) v (z'[i%z'.size]!) hv (by
  rw [hs] at hm ⊢;rw [Array.getElem?_toList,Array.getElem?_eq_getElem hm];congr 1;exact (getElem!_pos z' _ hm).symm)
 exact this
theorem zpi (off:Nat):∀ (vs:List Value) (k:Nat) (a:Array Value),off+k+vs.length<=a.size ->
    ((vs.zipIdx k).foldl (λcs (x:Value×Nat)=>cs.setIfInBounds (off+x.2) x.1) a).toList=a.toList.take (off+k)++vs++a.toList.drop (off+k+vs.length)
  | [],k,a,_=>by simp
  | v::vs,k,a,h=>by
    simp only [List.length_cons] at h;simp only [List.zipIdx_cons,List.foldl_cons];rw [zpi off vs (k+1) _ Oj];have hl:off+k<a.toList.length:=by simp; omega
    have e1:(a.setIfInBounds (off+k) v).toList=a.toList.set (off+k) v:=by simp
    rw [e1,show off+(k+1)=off+k+1 from by omega];rw [List.take_add_one,List.take_set_of_le (Nat.le_refl _),List.getElem?_set_self hl,List.drop_set_of_lt J];simp [Nat.add_assoc,Nat.add_comm 1]
theorem zjD {G:Emb} (place:Nat->Option (Nat×Nat)):∀ (parts:List (Nat×zd)) (parts':List (Nat×Value)) (cells:List zd) (cells':Array Value) (r:List zd),
    parts.length=parts'.length->(∀ (i:Nat) p p',parts[i]?=Ob p->parts'[i]?=Ob p'->p.1=p'.1/\zal G p.2 p'.2)->zcL G cells cells'.toList ->
    afill place cells parts=Ob r->∃ r',Instr.fill place cells' parts'=Ob r'/\zcL G r r'.toList
  | [],parts',cells,cells',r,hlen,_,hc,h=>by
    have:parts'=[]:=List.eq_nil_of_length_eq_zero hlen.symm;subst this;simp only [afill] at h;cases h;exact ⟨cells',rfl,hc⟩
  | (i,v)::rest,parts',cells,cells',r,hlen,hp,hc,h=>by
    cases parts' with
    | nil=>simp at hlen
    | cons p' rest'=>
      obtain ⟨i',v'⟩:=p';obtain ⟨h1,h3⟩:=hp 0 (i,v) (i',v') rfl rfl;simp only at h1 h3;subst h1;simp only [afill] at h;split at h
      · cases h
      rename_i off size hpl;split at h
      case isFalse=>cases h
      rename_i hc2;have h2:v≠.undef:=by rintro rfl; simp [zd.defd] at hc2
      have hv:=h3.cells h2;have hvl:=hv.1;have hcl:=hc.1;simp only [Array.length_toList] at hvl hcl;have hfold:zcL G (splice cells off v.cells) (v'.cells.zipIdx.foldl (λcs (x:Value×Nat)=>cs.setIfInBounds (off+x.2) x.1) cells').toList:=by
        have e:(v'.cells.zipIdx.foldl (λcs (x:Value×Nat)=>cs.setIfInBounds (off+x.2) x.1) cells').toList=cells'.toList.take off++v'.cells.toList++cells'.toList.drop (off+v'.cells.size):=by
          rw [← Array.foldl_toList,Array.toList_zipIdx];have:=zpi off v'.cells.toList 0 cells' Oj;simpa using this
        rw [e];unfold splice;rw [hvl];exact ((hc.take off).append hv).append (hc.drop _)
      obtain ⟨r',hr',hrr⟩:=zjD place rest rest' (splice cells off v.cells) _ r (by simpa using hlen) (λj p p' a b=>hp (j+1) p p' (by simpa using a) (by simpa using b)) hfold h;refine ⟨r', ?_,hrr⟩;simp only [Instr.fill,hpl];rw [if_neg Oj];exact hr'
theorem zlq {ev:Operand->zd} {cev:Operand->Value} (hev:∀ x,zal G (ev x) (cev x)) (parts:Array (Nat×Operand)) :
    (zds ev parts.toList).length=(parts.map λ(i,x)=>(i,cev x)).toList.length /\
    ∀ (i:Nat) p p',(zds ev parts.toList)[i]?=Ob p->((parts.map λ(i,x)=>(i,cev x)).toList)[i]?=Ob p'->p.1=p'.1/\zal G p.2 p'.2:=by
  refine ⟨by simp [zds],λi p p' hp hp'=>?_⟩;simp only [zds,List.getElem?_map,Array.toList_map] at hp hp';cases hq:parts.toList[i]? with
  | none=>rw [hq] at hp; cases hp
  | some q=>
    rw [hq] at hp hp';simp only [Option.map_some,Option.some.injEq] at hp hp';subst hp hp';exact ⟨rfl,hev q.2⟩
theorem zlr (ok:T.Ok P):∀ (fs:List Field) (pl:List (Nat×Nat)),aplaces T fs=Ob pl->∀ w:World,(fs.mapM (λf=>do pure (f.offset,← sizeOf f.type):Field->Sem (Nat×Nat))).run P w=.ok pl w
 | [],pl,h,w=>by simp [aplaces] at h; subst h; rfl
 | f::fs,pl,h,w=>by
  simp only [aplaces] at h;cases hn:szT T f.type with
  | none=>rw [hn] at h; cases h
  | some n=>
   cases hl:aplaces T fs with
   | none=>rw [hn,hl] at h; cases h
   | some l=>
    rw [hn,hl] at h;cases h;obtain ⟨j,hj,hjs⟩:=ok.size hn;have ih:=zlr ok fs l hl w;rw [List.mapM_cons];simp only [Sem.run_bind,zaj hj,Result.andThen_ok,Sem.run_pure,hjs];rw [ih];rfl
include ok in
theorem zt3 {t:TypeId} {v:zd} {ev:Operand->zd} {cev:Operand->Value} (hev:∀ x,zal G (ev x) (cev x)) (parts:Array (Nat×Operand))
    (hl:abuild T t (zds ev parts.toList)=Ob v):∃ v',(Instr.build t (parts.map λ(i,x)=>(i,cev x))).run P w=.ok v' w/\zal G v v':=by
  obtain ⟨e1,e2⟩:=zlq hev parts;unfold abuild at hl;split at hl
  case h_2=>cases hl
  rename_i z hz;obtain ⟨j,zv,hj,hjz,hzv⟩:=ok.zero hz;have hzr:=zeU G zv z hzv;have hzu:z≠.undef:=by
    rintro rfl
    unfold zhM at hzv;split at hzv
    · cases hc:zgV (_:List Value) with
      | none=>rw [hc] at hzv; cases hzv
      | some xs=>rw [hc] at hzv; cases hzv
    · unfold zll at hzv;split at hzv<;>first | (cases hzv; done) | (split at hzv<;>cases hzv)
  have hzc:=hzr.cells hzu;split at hl
  · rename_i fields hf;split at hl
    case h_2=>cases hl
    rename_i places hp;cases hfill:afill (λi=>places[i]?) z.cells (zds ev parts.toList) with
    | none=>rw [hfill] at hl; cases hl
    | some r=>
      rw [hfill] at hl;cases hl;obtain ⟨r',hr',hrr⟩:=zjD (λi=>places[i]?) _ _ _ _ r e1 e2 hzc hfill;refine ⟨.agg r', ?_,by have:=zal.agg' hrr; simpa using this⟩;have hm:=zlr ok fields.toList places hp w;have hm':(fields.mapM (λf=>do pure (f.offset,← sizeOf f.type):Field->Sem (Nat×Nat))).run P w=.ok places.toArray w:=by
        rw [Array.mapM_eq_mapM_toList];simp only [Sem.run_map,hm,Result.andThen_ok]
      simp only [Instr.build,Sem.run_bind,zdP hj hjz,Result.andThen_ok,zj (ok.und hf),hm'];have e3:(λ(x:Nat)=>places.toArray[x]?)=(λ(i:Nat)=>places[i]?):=by funext x; simp
      rw [e3];simp only [hr',Sem.run_pure]
  · rename_i len elem hf;split at hl
    case h_2=>cases hl
    rename_i n hn;cases hfill:afill (λi=>Ob (i*n,n)) z.cells (zds ev parts.toList) with
    | none=>rw [hfill] at hl; cases hl
    | some r=>
      rw [hfill] at hl;cases hl;obtain ⟨r',hr',hrr⟩:=zjD (λi=>Ob (i*n,n)) _ _ _ _ r e1 e2 hzc hfill;refine ⟨.agg r', ?_,by have:=zal.agg' hrr; simpa using this⟩;obtain ⟨j',hj',hjs⟩:=ok.size hn;simp only [Instr.build,Sem.run_bind,zdP hj hjz,Result.andThen_ok,zj (ok.und hf),zaj hj',hjs,hr',Sem.run_pure]
  · cases hl
end
section
variable {T:Tab} {P:Program} (ok:T.Ok P) {base:Nat} {G:Emb} {h:za} {w:World}
theorem zhh {v:Value} {z:zd} (h:zhM v=Ob z):z≠.undef:=by
 rintro rfl
 unfold zhM at h;split at h
 . cases hc:zgV (_:List Value) with
   | none=>rw [hc] at h; cases h
   | some xs=>rw [hc] at h; cases h
 . unfold zll at h;split at h<;>first | (cases h; done) | (split at h<;>cases h)
theorem zf8 {cells:List zd} {cc:Array Value} (hr:H0 base G h w) (hn:G h.next=Oe) (hc:zcL G cells (cc.toList.take cells.length)) (hlen:cells.length<=cc.size) (el:TypeId) (w':World)
 (hw:w'.heap=w.heap.push (.cells cc el)) (h1:w'.os=w.os) (h2:w'.tape=w.tape) (h3:w'.output=w.output) :
 H0 base (G.add h.next ⟨w.heap.size,0,cc.size⟩) (h.push (.arr cells Oc)) w'/\Trans G h w (G.add h.next ⟨w.heap.size,0,cc.size⟩) (h.push (.arr cells Oc)) w':=by
 refine zl8 hr hn (.arr cells Oc) (.cells cc el) w' cc.size hw h1 h2 h3 ?_;refine ⟨cc,el,(0,0),by rw [hw]; simp,rfl,by simp; exact hlen, ?_,λ_=>⟨rfl,hr.base⟩⟩;intro i v hv;obtain ⟨v',hv',hvv⟩:=hc.at hv;have hi:i<cells.length:=(List.getElem?_eq_some_iff.1 hv).1;rw [List.getElem?_take,if_pos hi,Array.getElem?_toList] at hv';exact ⟨v',by simpa using hv',hvv.mono (.add hn)⟩
theorem zpj {l:List Value} {n:Nat} (h:l.length<=n):l.take n=l:=List.take_of_length_le h
include ok in
theorem zls {elem:TypeId} {len n:Nat} {cap:Option Nat} {v:zd} {h':za} {parts:List (Nat×zd)} {parts':List (Nat×Value)} (hr:H0 base G h w) (hn:h'.next≠h.next->G h.next=Oe)
    (e1:parts.length=parts'.length) (e2:∀ (i:Nat) p p',parts[i]?=Ob p->parts'[i]?=Ob p'->p.1=p'.1/\zal G p.2 p'.2) (hcap:cap=Ob n) (hln:len<=n)
    (hl:zc8 T elem len cap n h parts=Ob (v,h')) :
    ∃ j zv r',P.info? elem=Ob j/\j.zero=Ob zv/\0<j.size/\zv.cells.size=j.size/\Instr.fill (λi=>Ob (i*j.size,j.size)) ((Array.range (n*j.size)).map (λi=>zv.cells[i%zv.cells.size]!)) parts'=Ob r' /\
      ∀ w':World,w'.heap=w.heap.push (.cells r' elem)->w'.os=w.os->w'.tape=w.tape->w'.output=w.output ->
        zal (G.add h.next ⟨w.heap.size,0,r'.size⟩) v (.slice (Ob ⟨w.heap.size,0,Oe⟩) len n)/\H0 base (G.add h.next ⟨w.heap.size,0,r'.size⟩) h' w'/\Trans G h w (G.add h.next ⟨w.heap.size,0,r'.size⟩) h' w':=by
  unfold zc8 at hl;split at hl
  case h_2=>cases hl
  rename_i sz hsz;split at hl
  · cases hl
  rename_i hsz0;split at hl
  case h_2=>cases hl
  rename_i z hz;split at hl
  case isFalse=>cases hl
  rename_i hzl;split at hl
  case h_2=>cases hl
  rename_i cells hfill;cases hl;obtain ⟨j,hj,hjs⟩:=ok.size hsz;obtain ⟨j2,zv,hj2,hjz,hzv⟩:=ok.zero hz;rw [hj] at hj2; cases hj2;have hzc:=(zeU G zv z hzv).cells (zhh hzv);have hzsz:zv.cells.size=sz:=by have:=hzc.1; simp at this; omega
  have hcop:=zlp hzc J n;rw [hzl] at hcop;obtain ⟨r',hr',hrr⟩:=zjD (λi=>Ob (i*sz,sz)) parts parts' (copies n z.cells) _ cells e1 e2 hcop hfill;subst hjs;refine ⟨j,zv,r',hj,hjz,by omega,hzsz,hr',λw' hw h1 h2 h3=>?_⟩;have hlr:cells.length=r'.size:=by rw [hrr.1]; simp
  have hrel:zcL G cells (r'.toList.take cells.length):=by
    rw [zpj (by simp [hlr])]; exact hrr
  obtain ⟨a,b⟩:=zf8 hr (hn (by simp [za.next_push])) hrel J elem w' hw h1 h2 h3;have hsize:r'.size=n*j.size:=by
    have hle:∀ (ps:List (Nat×zd)) (c r:List zd),afill (λi=>Ob (i*j.size,j.size)) c ps=Ob r->r.length=c.length:=by
      intro ps;induction ps with
      | nil=>intro c r hh; simp [afill] at hh; rw [hh]
      | cons p ps ih=>
        intro c r hh;obtain ⟨pi,pv⟩:=p;simp only [afill] at hh;split at hh
        case isFalse=>cases hh
        rename_i hc;rw [ih _ _ hh,zgv J]
    rw [← hlr,hle _ _ _ hfill,zem,hzl]
  refine ⟨.slice h.next 0 len j.size cap ⟨w.heap.size,0,r'.size⟩ _ n (Emb.add_same _ _ _) hln (λk hk=>?_) (.inr ⟨rfl,by simp [hsize]⟩),a,b⟩;rw [hcap] at hk; cases hk; rfl
include ok in
theorem zmb {t:TypeId} {len:Nat} {v:zd} {h':za} {ev:Operand->zd} {cev:Operand->Value} (hr:H0 base G h w) (hn:h'.next≠h.next->G h.next=Oe) (hev:∀ x,zal G (ev x) (cev x)) (parts:Array (Nat×Operand))
 (hl:zd3 T t len (zds ev parts.toList) h=Ob (v,h')):VOk P base G h w (Instr.buildSlice t len (parts.map λ(i,x)=>(i,cev x))) v h':=by
 obtain ⟨e1,e2⟩:=zlq hev parts;unfold zd3 at hl;split at hl
 case h_2=>cases hl
 rename_i elem hu;split at hl
 . cases hl
 rename_i hbig;obtain ⟨j,zv,r',hj,hjz,h0,hzs,hfill,hend⟩:=zls ok hr hn e1 e2 rfl (Nat.le_refl _) hl;have hsz:szT T elem=Ob j.size:=by
  unfold zc8 at hl;split at hl
  . rename_i sz hsz;obtain ⟨j',hj',hjs'⟩:=ok.size hsz;rw [hj] at hj'; cases hj';rw [hsz,hjs']
  . cases hl
 rw [hsz] at hbig;simp only [Option.getD_some] at hbig;obtain ⟨a,b,c⟩:=hend (w.alloc (.cells r' elem)) rfl rfl rfl rfl;refine ⟨_,w.alloc (.cells r' elem),_, ?_,a,b,c⟩;simp only [Instr.buildSlice,Sem.run_bind,zj (ok.und hu),Result.andThen_ok,zaj hj,Sem.run_ite,if_neg hbig];by_cases hz0:len*j.size=0
 . simp only [if_pos hz0,Sem.run_pure,Result.andThen_ok];have e:(Array.range (len*j.size)).map (λi=>(#[]:Array Value)[i%(#[]:Array Value).size]!)=((Array.range (len*j.size)).map (λi=>zv.cells[i%zv.cells.size]!)):=by
    rw [hz0]; simp
   rw [e,hfill];simp only [newRow,Sem.run_bind,run_newObj,Result.andThen_ok,Sem.run_pure];rfl
 . simp only [if_neg hz0,Sem.run_bind,zdP hj hjz,Result.andThen_ok,Sem.run_pure];rw [hfill];simp only [newRow,Sem.run_bind,run_newObj,Result.andThen_ok,Sem.run_pure];rfl
include ok in
theorem zna {t:TypeId} {l c v:zd} {l' c':Value} {h':za} (hr:H0 base G h w) (hn:h'.next≠h.next->G h.next=Oe) (hx:zal G l l') (hy:zal G c c') (hl:zeD T t l c h=Ob (v,h')):VOk P base G h w (Instr.makeSlice t l' c') v h':=by
 unfold zeD at hl;split at hl
 case h_2=>cases hl
 rename_i elem l c hu;cases hx; cases hy;split at hl
 case h_2=>cases hl
 rename_i i hi;split at hl
 case isFalse=>cases hl
 rename_i hc;obtain ⟨h0,hlc,hb,hm⟩:=hc;obtain ⟨j,zv,r',hj,hjz,hs0,hzs,hfill,hend⟩:=zls (parts':=[]) ok hr hn rfl Ol rfl J hl;obtain ⟨_,j2,hj2,_,hby,_⟩:=ok.types elem i hi;rw [hj] at hj2; cases hj2;have hrun:=run_make (P:=P) w t elem j zv (ok.und hu) hj hjz .i64 .i64 l c h0 hlc (by rw [hby]; omega) J;simp only [Instr.fill,Option.some.injEq] at hfill;obtain ⟨a,b,d⟩:=hend (w.alloc (.cells r' elem)) rfl rfl rfl rfl;refine ⟨_,w.alloc (.cells r' elem),_, ?_,a,b,d⟩;rw [hrun,← hfill];rfl
def zy4 (G:Emb) (x:Option zd) (x':Option Value):Prop:=(x=Oe/\x'=Oe)\/∃ v v',x=Ob v/\x'=Ob v'/\zal G v v'
theorem zbS {x:Option zd} {x':Option Value} {dflt top n:Nat} (hx:zy4 G x x') (hl:abound x dflt top=Ob n) :
 (x'=Oe/\x=Oe/\n=dflt)\/(∃ v',x'=Ob v'/\x.isSome=Od/\n<=top/\∀ top' code,n<=top'->(Instr.sliceBound v' top' code).run P w=.ok n w):=by
 unfold abound at hl;rcases hx with ⟨rfl,rfl⟩ | ⟨v,v',rfl,rfl,hr⟩
 . simp at hl; exact .inl ⟨rfl,rfl,hl.symm⟩
 . cases hr;all_goals (try (simp at hl; done))
   rename_i k i;dsimp only at hl;split at hl
   case isFalse=>cases hl
   rename_i hb;cases hl;refine .inr ⟨_,rfl,rfl,by omega,λtop' code ht=>?_⟩;have h1:(0<=i/\i<=(top':Int)):=⟨hb.1,by omega⟩;simp [Instr.sliceBound,asIntOf,h1]
theorem zhi {isSlice:Bool} {len cap l hi m:Nat} {lo' hi' mx':Option Value}
 (hm:(mx'=Oe/\m=cap)\/∃ v,mx'=Ob v/\∀ code,(Instr.sliceBound v cap code).run P w=.ok m w)
 (hh:(hi'=Oe/\mx'=Oe/\hi=len)\/∃ v,hi'=Ob v/\∀ code,(Instr.sliceBound v m code).run P w=.ok hi w)
 (hl:(lo'=Oe/\l=0)\/∃ v,lo'=Ob v/\∀ code,(Instr.sliceBound v hi code).run P w=.ok l w) :
 (Instr.sliceBounds isSlice len cap lo' hi' mx').run P w=.ok (l,hi,m) w:=by
 rcases hm with ⟨rfl,rfl⟩ | ⟨vm,rfl,hm⟩<;>rcases hh with ⟨rfl,hx,rfl⟩ | ⟨vh,rfl,hh⟩<;>rcases hl with ⟨rfl,rfl⟩ | ⟨vl,rfl,hl⟩;all_goals (try (cases hx; done))
 all_goals simp [Instr.sliceBounds, *]
theorem znb {b off len es:Nat} {cap:Option Nat} {x':Value} (hx:zal G (.slice b off len es cap) x') {l hi m:Nat} {cap2:Option Nat}
 (hlh:l<=hi) (hhm:hi<=m) (hm:∀ (a:Addr) (ccap:Nat),x'=.slice (Ob a) len ccap->m<=ccap) (hc:∀ k,cap2=Ob k->m-l=k) :
 ∃ a ccap,x'=.slice (Ob a) len ccap /\
  zal G (.slice b (off+l*es) (hi-l) es cap2) (.slice (if m=l then (Ob a:Option Addr) else (Ob (a:Addr)).map (λa=>a.add (l*es))) (hi-l) (m-l)):=by
 cases hx with
 | slice _ _ _ _ _ lc a ccap hb hlen hcap hoff=>
 have hmc:=hm a ccap rfl;refine ⟨a,ccap,rfl, ?_⟩;by_cases he:m=l
 . rw [if_pos he];exact .slice b _ _ _ _ lc a (m-l) hb J hc (.inl J)
 . rw [if_neg he];rcases hoff with h0 | ⟨rfl,h2⟩
   . omega
   . simp only [Option.map_some,Addr.add_lit];refine .slice b _ _ _ _ lc _ (m-l) hb J hc (.inr ⟨by rw [Nat.add_assoc], ?_⟩);have h3:l*es+(m-l)*es=m*es:=by rw [← Nat.add_mul]; congr 1; omega
     have h4:m*es<=ccap*es:=Nat.mul_le_mul_right _ hmc;omega
include ok in
theorem zt4 {t:TypeId} {x v:zd} {x':Value} {lo hi mx:Option zd} {lo' hi' mx':Option Value} (hx:zal G x x') (hlo:zy4 G lo lo') (hhi:zy4 G hi hi') (hmx:zy4 G mx mx')
 (hl:aslice T t x lo hi mx=Ob v):∃ v',(Instr.sliceAt t x' lo' hi' mx').run P w=.ok v' w/\zal G v v':=by
 unfold aslice at hl;split at hl
 . rename_i elem b off len es cap hu;split at hl
   case isFalse=>cases hl
   rename_i hes;obtain ⟨hsz,h0⟩:=hes;obtain ⟨j,hj,hjs⟩:=ok.size hsz
   -- the end,once the three bounds are known
   have fin:∀ (l hh m:Nat) (cap2:Option Nat),l<=hh->hh<=m->(∀ (a:Addr) (ccap:Nat),x'=.slice (Ob a) len ccap->m<=ccap/\(Instr.sliceBounds Od len ccap lo' hi' mx').run P w=.ok (l,hh,m) w) ->
    (∀ k,cap2=Ob k->m-l=k)->v=.slice b (off+l*es) (hh-l) es cap2->∃ v',(Instr.sliceAt t x' lo' hi' mx').run P w=.ok v' w/\zal G v v':=by
    intro l hh m cap2 h1 h2 h3 h4 hv;obtain ⟨a,ccap,hx',hrel⟩:=znb hx h1 h2 (λa b d=>(h3 a b d).1) h4;subst hv;refine ⟨_, ?_,hrel⟩;have h5:=(h3 a ccap hx').2;subst hx';simp only [Instr.sliceAt,Sem.run_bind,zj (ok.und hu),Result.andThen_ok,Instr.slice,h5,zaj hj,hjs,Sem.run_pure]
   split at hl
   . -- cap unknown,no max
     split at hl
     case h_2=>cases hl
     rename_i hh hbh;split at hl
     case h_2=>cases hl
     rename_i l hbl;cases hl;rcases hmx with ⟨_,rfl⟩ | ⟨_,_,hq,_⟩
     case inr=>cases hq
     cases hx with
     | slice _ _ _ _ _ lc a ccap hb hlen hcap hoff=>
     have hhlen:hh<=len:=by
      rcases zbS (P:=P) (w:=w) hhi hbh with ⟨_,_,e⟩ | ⟨_,_,_,e,_⟩<;>omega
     have hllen:l<=hh:=by
      rcases zbS (P:=P) (w:=w) hlo hbl with ⟨_,_,e⟩ | ⟨_,_,_,e,_⟩<;>omega
     have hrel:zal G (.slice b (off+l*es) (hh-l) es Oe) (.slice (if ccap=l then (Ob a:Option Addr) else (Ob (a:Addr)).map (λa=>a.add (l*es))) (hh-l) (ccap-l)):=by
      obtain ⟨a2,ccap2,he,hr⟩:=znb (m:=ccap) (cap2:=Oe) (.slice b off len es Oe lc a ccap hb hlen hcap hoff) hllen J (λ_ _ e=>by cases e; exact Nat.le_refl _) (λk hk=>by cases hk);cases he;exact hr
     refine ⟨_, ?_,hrel⟩;have hrun:(Instr.sliceBounds Od len ccap lo' hi' Oe).run P w=.ok (l,hh,ccap) w:=by
      refine zhi (.inl ⟨rfl,rfl⟩) ?_ ?_
      . rcases zbS (P:=P) (w:=w) hhi hbh with ⟨e1,_,e2⟩ | ⟨v',e1,_,_,e2⟩
        . exact .inl ⟨e1,rfl,e2⟩
        . exact .inr ⟨v',e1,λcode=>e2 ccap code J⟩
      . rcases zbS (P:=P) (w:=w) hlo hbl with ⟨e1,_,e2⟩ | ⟨v',e1,_,_,e2⟩
        . exact .inl ⟨e1,e2⟩
        . exact .inr ⟨v',e1,λcode=>e2 hh code hllen⟩
     simp only [Instr.sliceAt,Sem.run_bind,zj (ok.und hu),Result.andThen_ok,Instr.slice,hrun,zaj hj,hjs,Sem.run_pure]
   . -- cap unknown,a max
     rename_i m0;split at hl
     case h_2=>cases hl
     rename_i m' hbm;split at hl
     case h_2=>split at hl<;>cases hl
     rename_i hi0;split at hl
     case h_2=>cases hl
     rename_i hh hbh;split at hl
     case h_2=>cases hl
     rename_i l hbl;cases hl;rcases zbS (P:=P) (w:=w) hmx hbm with ⟨_,e,_⟩ | ⟨vm,em,_,hml,hmr⟩
     . cases e
     rcases zbS (P:=P) (w:=w) hhi hbh with ⟨_,e,_⟩ | ⟨vh,eh,_,hhm,hhr⟩
     . cases e
     have hllen:l<=hh:=by
      rcases zbS (P:=P) (w:=w) hlo hbl with ⟨_,_,e⟩ | ⟨_,_,_,e,_⟩<;>omega
     refine fin l hh m' (Ob (m'-l)) hllen hhm (λa ccap hx'=>?_) (λk hk=>by cases hk; rfl) rfl;have hlc:len<=ccap:=by
      rw [hx'] at hx;cases hx with
      | slice _ _ _ _ _ lc a ccap hb hlen hcap hoff=>exact hlen
     refine ⟨by omega,zhi (.inr ⟨vm,em,λcode=>hmr ccap code J⟩) (.inr ⟨vh,eh,λcode=>hhr m' code hhm⟩) ?_⟩;rcases zbS (P:=P) (w:=w) hlo hbl with ⟨e1,_,e2⟩ | ⟨v',e1,_,_,e2⟩
     . exact .inl ⟨e1,e2⟩
     . exact .inr ⟨v',e1,λcode=>e2 hh code hllen⟩
   . -- cap known
     rename_i c;split at hl
     case h_2=>cases hl
     rename_i m' hbm;split at hl
     case h_2=>cases hl
     rename_i hh hbh;split at hl
     case h_2=>cases hl
     rename_i l hbl;cases hl;split at hbh
     . cases hbh
     rename_i hmh;have hmc:m'<=c:=by
      rcases zbS (P:=P) (w:=w) hmx hbm with ⟨_,_,e⟩ | ⟨_,_,_,e,_⟩<;>omega
     have hllen:l<=hh:=by
      rcases zbS (P:=P) (w:=w) hlo hbl with ⟨_,_,e⟩ | ⟨_,_,_,e,_⟩<;>omega
     have hcc:∀ (a:Addr) (ccap:Nat),x'=.slice (Ob a) len ccap->ccap=c/\len<=ccap:=by
      intro a ccap hx';rw [hx'] at hx;cases hx with
      | slice _ _ _ _ _ lc a ccap hb hlen hcap hoff=>exact ⟨hcap _ rfl,hlen⟩
     have hx2:=hx;cases hx2 with
     | slice _ _ _ _ _ lc0 off0 ccap0 hb0 hlen0 hcap0 hoff0=>
     have hlc:len<=c:=by have:=hcap0 c rfl; omega
     have hhm:hh<=m':=by
      rcases zbS (P:=P) (w:=w) hhi hbh with ⟨_,e0,e⟩ | ⟨_,_,_,e,_⟩
      . rcases zbS (P:=P) (w:=w) hmx hbm with ⟨_,_,e'⟩ | ⟨_,_,e',_⟩
        . omega
        . simp [e',e0] at hmh
      . exact e
     refine fin l hh m' (Ob (m'-l)) hllen hhm (λa ccap hx'=>?_) (λk hk=>by cases hk; rfl) rfl;obtain ⟨e1,_⟩:=hcc a ccap hx';subst e1;refine ⟨hmc,zhi ?_ ?_ ?_⟩
     . rcases zbS (P:=P) (w:=w) hmx hbm with ⟨e1,_,e2⟩ | ⟨v',e1,_,_,e2⟩
       . exact .inl ⟨e1,e2⟩
       . exact .inr ⟨v',e1,λcode=>e2 _ code hmc⟩
     . rcases zbS (P:=P) (w:=w) hhi hbh with ⟨e1,e0,e2⟩ | ⟨v',e1,_,_,e2⟩
       . left;refine ⟨e1, ?_,e2⟩;rcases zbS (P:=P) (w:=w) hmx hbm with ⟨e3,_,_⟩ | ⟨_,_,e',_⟩
         . exact e3
         . simp [e',e0] at hmh
       . exact .inr ⟨v',e1,λcode=>e2 _ code hhm⟩
     . rcases zbS (P:=P) (w:=w) hlo hbl with ⟨e1,_,e2⟩ | ⟨v',e1,_,_,e2⟩
       . exact .inl ⟨e1,e2⟩
       . exact .inr ⟨v',e1,λcode=>e2 hh code hllen⟩
 . rename_i elem hu;cases hx;split at hl
   case h_2=>cases hl
   rename_i n hh l hn hbh hbl;cases hl;obtain ⟨j,hinf,_⟩:=ok.size hn;rcases hmx with ⟨_,rfl⟩ | ⟨_,_,hq,_⟩
   case inr=>cases hq
   have hh0:hh=0:=by rcases zbS (P:=P) (w:=w) hhi hbh with ⟨_,_,e⟩ | ⟨_,_,_,e,_⟩<;>omega
   have hl0:l=0:=by rcases zbS (P:=P) (w:=w) hlo hbl with ⟨_,_,e⟩ | ⟨_,_,_,e,_⟩<;>omega
   subst hh0 hl0;have hrun:(Instr.sliceBounds Od 0 0 lo' hi' Oe).run P w=.ok (0,0,0) w:=by
    refine zhi (.inl ⟨rfl,rfl⟩) ?_ ?_
    . rcases zbS (P:=P) (w:=w) hhi hbh with ⟨e1,_,e2⟩ | ⟨v',e1,_,_,e2⟩
      . exact .inl ⟨e1,rfl,rfl⟩
      . exact .inr ⟨v',e1,λcode=>e2 0 code J⟩
    . rcases zbS (P:=P) (w:=w) hlo hbl with ⟨e1,_,e2⟩ | ⟨v',e1,_,_,e2⟩
      . exact .inl ⟨e1,rfl⟩
      . exact .inr ⟨v',e1,λcode=>e2 0 code J⟩
   refine ⟨.slice Oe 0 0, ?_,.nsz⟩;simp only [Instr.sliceAt,Sem.run_bind,zj (ok.und hu),Result.andThen_ok,Instr.slice,hrun,zaj hinf,Sem.run_pure];simp
 . cases hl
end
end Go.Ai