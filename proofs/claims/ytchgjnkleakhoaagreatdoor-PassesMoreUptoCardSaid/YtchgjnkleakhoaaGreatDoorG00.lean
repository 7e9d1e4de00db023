/- Lemmas. -/
import Derived.Calls
import Derived.Laws.World
import Derived.Laws.Sem
import Derived.Laws.Cells
import Derived.Laws.IdiomCopy
import Derived.Laws.AppendOwn
import Derived.Laws.MakeOwn
import Derived.Laws.StructEq
import Derived.Laws.Cover3
import Derived.Laws.BytesArg
import Derived.Laws.IdiomStrings
set_option maxRecDepth 1000000
set_option maxHeartbeats 40000000
set_option linter.all false
namespace Go.Ab
inductive Tree where
 |bool (b:Bool)
 |int (k:IntKind) (n:Int)
 |str (s:List Nat)
 |sl (nl clip:Bool) (es:List (List Tree))
 |agg (cs:List Tree)
 |ifc (t:TypeId) (v:Tree)
 |nilifc
 |fn (f:FuncId)
 |nilfn
 |nilptr
 |nilmap
 deriving Inhabited
inductive AV where
 |t (x:Tree)
 |nov
 |unk
 |box (id off:Nat)
 |el (id ver i off:Nat)
 |rp (cs:List Tree)
 |hs (id ver:Nat)
 |hsub (id ver lo len:Nat)
 |agg (cs:List AV)
 |fn (f:FuncId) (first captured:List AV)
 |tup (vs:List AV)
 |mp (id:Nat)
 |yld (id:Nat)
 |dfr (ds:List AV)
 |rnd
 |ifv (t:TypeId) (v:AV)
 |ifx
 deriving Inhabited
structure LoopC where
 k:Nat
 kf:Nat
 ps:List Nat
 asg:Code
 body:Code
 deriving Inhabited
inductive Obj where
 |box (cs:List AV)
 |arr (s ver:Nat) (frz:Bool) (es:List (List Tree))
 |marr (s ver:Nat) (es:List (List AV))
 |siter (s:List Nat) (pos:Nat)
 |map (es:List (Tree×AV))
 |loop (c:LoopC) (T:List (Nat×AV)) (busy:Nat) (jump:Option Code)
 |dead
 deriving Inhabited
abbrev Heap:=List Obj
abbrev Look:=Nat→Option Obj
abbrev Patch:=List (Nat×Obj)
inductive Out where
 |val (v:AV)
 |pan (v:AV)
 deriving Inhabited
structure Cfg where
 P:Program
 byRef:FuncId→Bool
 thaw:FuncId→Bool
 keep:FuncId→Nat→Option (List Nat)
 prim:FuncId→List AV→Option AV
abbrev Oracle:=FuncId→List AV→Heap→Option (Out×Heap)
def nth{α:Type}:List α→Nat→Option α
 |[],_=>none
 |a::_,0=>some a
 |_::l,n+1=>nth l n
def setN{α:Type}:List α→Nat→α→List α
 |[],_,_=>[]
 |_::l,0,x=>x::l
 |a::l,n+1,x=>a::setN l n x
def idx{α:Type}(l:List α):Int→Option α
 |.ofNat n=>nth l n
 |.negSucc _=>none
def lit1:Value→Option Tree
 |.bool b=>some (.bool b)
 |.int k n=>some (.int k n)
 |.string s=>some (.str (s.data.toList.map UInt8.toNat))
 |.pointer none=>some .nilptr
 |.slice none 0 0=>some (.sl true true [])
 |.map none=>some .nilmap
 |.func (.func f) a b=>if a.isEmpty&&b.isEmpty then some (.fn f) else none
 |.nilFunc=>some .nilfn
 |.nilIface=>some .nilifc
 |_=>none
def lits:List Value→Option (List Tree)
 |[]=>some []
 |v::vs=>match lit1 v with
  |none=>none
  |some x=>match lits vs with
   |none=>none
   |some xs=>some (x::xs)
def lit(v:Value):AV :=
 match v with
 |.agg cs=>match lits cs.toList with
  |some ts=>.t (.agg ts)
  |none=>.unk
 |v=>match lit1 v with
  |some x=>.t x
  |none=>.unk
def scal:Tree→Option Value
 |.bool b=>some (.bool b)
 |.int k n=>some (.int k n)
 |_=>none
def vG:Value→Option Tree
 |.bool b=>some (.bool b)
 |.int k n=>some (.int k n)
 |_=>none
def zLG:Sem Value→Option Tree
 |.pure v=>vG v
 |_=>none
def trees:List AV→Option (List Tree)
 |[]=>some []
 |.t x::vs=>match trees vs with
  |none=>none
  |some xs=>some (x::xs)
 |_=>none
def mkAgg(cs:List AV):AV :=
 match trees cs with
 |some ts=>.t (.agg ts)
 |none=>.agg cs
def zT:AV→Option (List AV)
 |.t (.agg ts)=>some (ts.map .t)
 |.agg cs=>some cs
 |_=>none
def cellsOf:AV→Option (List AV)
 |.t (.agg ts)=>some (ts.map .t)
 |.agg cs=>some cs
 |.unk|.nov|.tup _|.dfr _|.rnd=>none
 |v=>some [v]
def info(P:Program)(t:TypeId):Option TypeInfo:=nth P.types.toList t
def und(P:Program)(t:TypeId):Option TypeDesc :=
 match info P t with
 |some i=>match i.desc with
  |.named _ u=>match info P u with
   |some j=>some j.desc
   |none=>none
  |d=>some d
 |none=>none
def sizeOf?(P:Program)(t:TypeId):Option Nat :=
 match info P t with
 |some i=>some i.size
 |none=>none
def agg?(P:Program)(t:TypeId):Option Bool :=
 match und P t with
 |some (.struct _)|some (.array _ _)=>some true
 |some _=>some false
 |none=>none
def cut{α:Type}(l:List α)(lo n:Nat):Option (List α) :=
 if lo+n≤l.length then some ((l.drop lo).take n) else none
def mem(n:Nat):List Nat→Bool
 |[]=>false
 |a::l=>match Nat.beq a n with
  |true=>true
  |false=>mem n l
def place(n:Nat):List Nat→Nat
 |[]=>0
 |a::l=>match Nat.beq a n with
  |true=>0
  |false=>place n l+1
def splice{α:Type}(l:List α)(lo:Nat)(new:List α):List α:=l.take lo++new++l.drop (lo+new.length)
def loadCells(g:Look)(n:Nat):AV→Option (List AV)
 |.box id off=>match g id with
  |some (.box cs)=>cut cs off n
  |_=>none
 |.el id ver i off=>match g id with
  |some (.arr _ ver' _ es)=>if ver=ver' then match nth es i with
    |some e=>match cut e off n with
     |some cs=>some (cs.map .t)
     |none=>none
    |none=>none
   else none
  |some (.marr _ ver' es)=>if ver=ver' then match nth es i with
    |some e=>cut e off n
    |none=>none
   else none
  |_=>none
 |.rp cs=>match cut cs 0 n with
  |some cs=>some (cs.map .t)
  |none=>none
 |_=>none
def load(P:Program)(g:Look)(t:TypeId)(a:AV):Option AV :=
 match agg? P t with
 |some true=>match sizeOf? P t with
  |some n=>match loadCells g n a with
   |some cs=>some (mkAgg cs)
   |none=>none
  |none=>none
 |some false=>match loadCells g 1 a with
  |some [v]=>some v
  |_=>none
 |none=>none
def zW(n:Nat):AV→Option AV
 |.box id off=>some (.box id (off+n))
 |.el id ver i off=>some (.el id ver i (off+n))
 |.rp cs=>if n≤cs.length then some (.rp (cs.drop n)) else none
 |_=>none
def catMap{α β:Type}(f:α→List β):List α→List β
 |[]=>[]
 |a::l=>f a++catMap f l
def elems(g:Look):AV→Option (List (List Tree))
 |.t (.sl _ _ es)=>some es
 |.hs id ver=>match g id with
  |some (.arr _ ver' _ es)=>if ver=ver' then some es else none
  |_=>none
 |.hsub id ver lo len=>match g id with
  |some (.arr _ ver' _ es)=>if ver=ver' then cut es lo len else none
  |_=>none
 |_=>none
def lenOf(g:Look):AV→Option Nat
 |.t (.sl _ _ es)=>some es.length
 |.hs id ver=>match g id with
  |some (.arr _ ver' _ es)=>if ver=ver' then some es.length else none
  |some (.marr _ ver' es)=>if ver=ver' then some es.length else none
  |_=>none
 |.hsub _ _ _ len=>some len
 |_=>none
def view(g:Look):AV→AV
 |.hs id ver=>match elems g (.hs id ver) with
  |some es=>.t (.sl false false es)
  |none=>.hs id ver
 |.hsub id ver lo len=>match elems g (.hsub id ver lo len) with
  |some es=>.t (.sl false false es)
  |none=>.hsub id ver lo len
 |.agg cs=>mkAgg (cs.map fun c=>match c with
  |.hs id ver=>(match elems g (.hs id ver) with
   |some es=>.t (.sl false false es)
   |none=>.hs id ver)
  |.hsub id ver lo len=>(match elems g (.hsub id ver lo len) with
   |some es=>.t (.sl false false es)
   |none=>.hsub id ver lo len)
  |c=>c)
 |v=>v
def yO(g:Look):AV→List Nat
 |.hs id ver=>match elems g (.hs id ver) with
  |some _=>[id]
  |none=>[]
 |.hsub id ver lo len=>match elems g (.hsub id ver lo len) with
  |some _=>[id]
  |none=>[]
 |.agg cs=>catMap (fun c=>match c with
  |.hs id ver=>(match elems g (.hs id ver) with
   |some _=>[id]
   |none=>[])
  |.hsub id ver lo len=>(match elems g (.hsub id ver lo len) with
   |some _=>[id]
   |none=>[])
  |_=>[]) cs
 |_=>[]
def xB(g:Look):List Nat→Patch
 |[]=>[]
 |id::ids=>match g id with
  |some (.arr s ver _ es)=>(id,.arr s ver true es)::xB g ids
  |_=>xB g ids
def fresh(g:Look)(id ver:Nat):Bool :=
 match g id with
 |some (.arr _ ver' _ _)=>Nat.beq ver ver'
 |some (.marr _ ver' _)=>Nat.beq ver ver'
 |_=>false
def refs(g:Look):Nat→AV→List Nat
 |0,_=>[]
 |d+1,v=>match v with
  |.box id _=>[id]
  |.el id ver _ _=>bif fresh g id ver then [id] else []
  |.hs id ver=>bif fresh g id ver then [id] else []
  |.hsub id ver _ _=>bif fresh g id ver then [id] else []
  |.agg cs=>catMap (refs g d) cs
  |.fn _ a b=>catMap (refs g d) a++catMap (refs g d) b
  |.tup vs=>catMap (refs g d) vs
  |.mp id=>[id]
  |.yld id=>[id]
  |.dfr vs=>catMap (refs g d) vs
  |.ifv _ v=>refs g d v
  |_=>[]
def depth:Nat:=5
def wQ(g:Look)(vs:List AV):List Nat:=catMap (refs g depth) vs
def vY(g:Look):Obj→List Nat
 |.box cs=>wQ g cs
 |.marr _ _ es=>catMap (wQ g) es
 |.map es=>catMap (fun e=>refs g depth e.2) es
 |.loop _ T _ _=>catMap (fun e=>refs g depth e.2) T
 |_=>[]
def reach(g:Look):Nat→List Nat→List Nat→Option (List Nat)
 |0,_,_=>none
 |_+1,[],acc=>some acc
 |n+1,id::todo,acc =>
  match mem id acc with
  |true=>reach g n todo acc
  |false=>match g id with
   |some o=>reach g n (vY g o++todo) (acc++[id])
   |none=>none
def ren(g:Look)(ids:List Nat):Nat→AV→AV
 |0,_=>.unk
 |d+1,v=>match v with
  |.box id off=>bif mem id ids then .box (place id ids) off else .unk
  |.el id ver i off=>bif fresh g id ver&&mem id ids then .el (place id ids) 0 i off else .unk
  |.hs id ver=>bif fresh g id ver&&mem id ids then .hs (place id ids) 0 else .unk
  |.hsub id ver lo len=>bif fresh g id ver&&mem id ids then .hsub (place id ids) 0 lo len else .unk
  |.agg cs=>.agg (cs.map (ren g ids d))
  |.fn f a b=>.fn f (a.map (ren g ids d)) (b.map (ren g ids d))
  |.tup vs=>.tup (vs.map (ren g ids d))
  |.mp id=>bif mem id ids then .mp (place id ids) else .unk
  |.yld id=>bif mem id ids then .yld (place id ids) else .unk
  |.dfr vs=>.dfr (vs.map (ren g ids d))
  |.ifv t v=>.ifv t (ren g ids d v)
  |v=>v
def renL(g:Look)(ids:List Nat)(vs:List AV):List AV:=vs.map (ren g ids depth)
def renO(g:Look)(ids:List Nat):Obj→Obj
 |.box cs=>.box (renL g ids cs)
 |.arr s _ frz es=>.arr s 0 frz es
 |.marr s _ es=>.marr s 0 (es.map (renL g ids))
 |.map es=>.map (es.map fun e=>(e.1,ren g ids depth e.2))
 |.loop c T b j=>.loop c (T.map fun e=>(e.1,ren g ids depth e.2)) b j
 |o=>o
def sub1(g:Look)(ids:List Nat):List Nat→Option Heap
 |[]=>some []
 |id::l=>match g id with
  |none=>none
  |some o=>match sub1 g ids l with
   |none=>none
   |some os=>some (renO g ids o::os)
def sub(g:Look)(ids:List Nat):Option Heap:=sub1 g ids ids
def upto:Nat→List Nat→List Nat
 |0,acc=>acc
 |n+1,acc=>upto n (n::acc)
def canon(h:Heap)(m:Nat)(vs:List AV):Option (List AV×Heap) :=
 let g:Look:=nth h
 match reach g 100000 (catMap (vY g) (h.take m)++wQ g vs) (upto m []) with
 |none=>none
 |some ids=>match sub g ids with
  |none=>none
  |some h'=>some (renL g ids vs,h')
def getN(l:List Nat)(i:Nat):Nat:=(nth l i).getD 0
structure Way where
 g:Look
 m:Nat
 ids:List Nat
 vers:List Nat
 nid:Nat
def Way.id(y:Way)(k:Nat):Nat:=bif Nat.blt k y.m then getN y.ids k else y.nid+(k - y.m)
def Way.ver(y:Way)(k:Nat):Nat:=bif Nat.blt k y.m then getN y.vers k else 0
def back(y:Way):Nat→AV→AV
 |0,_=>.unk
 |d+1,v=>match v with
  |.box k off=>.box (y.id k) off
  |.el k ver i off=>bif fresh y.g k ver then .el (y.id k) (y.ver k) i off else .unk
  |.hs k ver=>bif fresh y.g k ver then .hs (y.id k) (y.ver k) else .unk
  |.hsub k ver lo len=>bif fresh y.g k ver then .hsub (y.id k) (y.ver k) lo len else .unk
  |.agg cs=>.agg (cs.map (back y d))
  |.fn f a b=>.fn f (a.map (back y d)) (b.map (back y d))
  |.tup vs=>.tup (vs.map (back y d))
  |.mp k=>.mp (y.id k)
  |.yld k=>.yld (y.id k)
  |.dfr vs=>.dfr (vs.map (back y d))
  |.ifv t v=>.ifv t (back y d v)
  |v=>v
def zDq(y:Way)(vs:List AV):List AV:=vs.map (back y depth)
def zB7(y:Way)(ver:Nat):Obj→Obj
 |.box cs=>.box (zDq y cs)
 |.arr s _ frz es=>.arr s ver frz es
 |.marr s _ es=>.marr s ver (es.map (zDq y))
 |.map es=>.map (es.map fun e=>(e.1,back y depth e.2))
 |.loop c T b j=>.loop c (T.map fun e=>(e.1,back y depth e.2)) b j
 |o=>o
def zCJ:Option Obj→Nat
 |some (.arr _ ver _ _)=>ver+1
 |some (.marr _ ver _)=>ver+1
 |_=>0
def vD(y:Way):Nat→List Obj→Patch
 |_,[]=>[]
 |k,o::os=>(y.id k,zB7 y (y.ver k) o)::vD y (k+1) os
def zB2:Tree→Bool
 |.sl _ _ _=>false
 |.agg cs=>cs.all fun c=>match c with
  |.sl _ _ _|.agg _|.ifc _ _=>false
  |_=>true
 |.ifc _ v=>match v with
  |.sl _ _ _|.agg _|.ifc _ _=>false
  |_=>true
 |_=>true
def plain:AV→Bool
 |.t x=>zB2 x
 |.nov=>true
 |.ifx=>true
 |.tup vs=>vs.all fun v=>match v with
  |.t x=>zB2 x
  |.nov=>true
  |.ifx=>true
  |_=>false
 |_=>false
def jV(g:Look):AV→AV
 |.tup vs=>.tup (vs.map (view g))
 |v=>view g v
abbrev Env:=List (Nat×AV)
def get(T:Env)(t:Nat):AV :=
 match T with
 |[]=>.unk
 |(u,v)::T=>match Nat.beq u t with
  |true=>v
  |false=>get T t
def zM(T:Env):Operand→AV
 |.tmp t=>get T t
 |.const v=>lit v
 |.global _=>.unk
 |.func f=>.t (.fn f)
def bytesLess:List Nat→List Nat→Bool
 |_,[]=>false
 |[],_::_=>true
 |a::x,b::y=>Nat.blt a b||(Nat.beq a b&&bytesLess x y)
def beqL:List Nat→List Nat→Bool
 |[],[]=>true
 |a::x,b::y=>match Nat.beq a b with
  |true=>beqL x y
  |false=>false
 |_,_=>false
def zNG(op:BinOp)(x y:List Nat):Option Tree :=
 match op with
 |.add=>if x.length+y.length<4611686018427387904 then some (.str (x++y)) else none
 |.eql=>some (.bool (beqL x y))
 |.neq=>some (.bool !(beqL x y))
 |.lss=>some (.bool (bytesLess x y))
 |.leq=>some (.bool (bytesLess x y||beqL x y))
 |.gtr=>some (.bool !(bytesLess x y||beqL x y))
 |.geq=>some (.bool !(bytesLess x y))
 |_=>none
def part(P:Program)(t:TypeId)(cs:List AV)(off:Nat):Option AV :=
 match agg? P t with
 |some true=>match sizeOf? P t with
  |some n=>match cut cs off n with
   |some l=>some (mkAgg l)
   |none=>none
  |none=>none
 |some false=>nth cs off
 |none=>none
def zEc(P:Program)(t:TypeId)(cs:List Tree)(off:Nat):Option Tree :=
 match agg? P t with
 |some true=>match sizeOf? P t with
  |some n=>match cut cs off n with
   |some l=>some (.agg l)
   |none=>none
  |none=>none
 |some false=>nth cs off
 |none=>none
def equal(P:Program):Nat→TypeId→Tree→Tree→Option Bool
 |0,_,_,_=>none
 |d+1,t,x,y =>
  match und P t,x,y with
  |some .bool,.bool a,.bool b=>some (a==b)
  |some (.int _),.int k a,.int k' b=>if k=k' then some (a==b) else none
  |some .string,.str a,.str b=>some (beqL a b)
  |some (.struct fields),.agg xs,.agg ys =>
   if P.stoodInHeld t then none else
   eqFields (fun u x y=>equal P d u x y) xs ys fields.toList
  |_,_,_=>none
 where
 eqFields (eq:TypeId→Tree→Tree→Option Bool) (xs ys:List Tree):List Field→Option Bool
  |[]=>some true
  |f::fs =>
   if f.name = "_" then eqFields eq xs ys fs else
   match zEc P f.type xs f.offset,zEc P f.type ys f.offset with
   |some x,some y=>match eq f.type x y with
    |some true=>eqFields eq xs ys fs
    |some false=>some false
    |none=>none
   |_,_=>none
def zEK:AV→Option (Nat×Bool)
 |.t .nilfn=>some (0,true)
 |.t (.fn _)=>some (0,false)
 |.fn _ _ _=>some (0,false)
 |.t .nilptr=>some (1,true)
 |.box _ _=>some (1,false)
 |.el _ _ _ _=>some (1,false)
 |.rp _=>some (1,false)
 |.t (.sl nl _ _)=>some (2,nl)
 |.hs _ _=>some (2,false)
 |.hsub _ _ _ _=>some (2,false)
 |.t .nilmap=>some (3,true)
 |.mp _=>some (3,false)
 |_=>none
def zJc(P:Program)(t:TypeId):Option Nat :=
 match und P t with
 |some (.func _ _ _)=>some 0
 |some (.pointer _)=>some 1
 |some (.slice _)=>some 2
 |some (.map _ _)=>some 3
 |_=>none
def zGP(P:Program)(t:TypeId)(x y:AV):Option Bool :=
 match zJc P t,zEK x,zEK y with
 |some k,some (a,m),some (b,n) =>
  match Nat.beq k a&&Nat.beq k b,m,n with
  |true,true,n=>some n
  |true,false,true=>some false
  |_,_,_=>none
 |_,_,_=>none
def zBm(P:Program):Nat→TypeId→Bool
 |0,_=>true
 |d+1,t=>match und P t with
  |some (.interface ms)=>!ms.isEmpty
  | some (.struct fs) => fs.toList.any fun f => f.name != "_" && zBm P d f.type
  |some (.array _ e)=>zBm P d e
  |some _=>false
  |none=>true
def binop(P:Program)(op:BinOp)(t:TypeId)(x y:AV):Option AV :=
 match x,y with
 |.t (.int k a),.t (.int k' b)=>(zLG (Go.binOp op t (.int k a) (.int k' b))).map .t
 |.t (.str a),.t (.str b)=>(zNG op a b).map .t
 |.t (.bool a),.t (.bool b)=>match op,und P t with
  |.eql,some .bool=>some (.t (.bool (a==b)))
  |.neq,some .bool=>some (.t (.bool !(a==b)))
  |_,_=>none
 |.t (.agg xs),.t (.agg ys) =>
  if zBm P 50 t then none else match op with
  |.eql=>(equal P 100 t (.agg xs) (.agg ys)).map fun b=>.t (.bool b)
  |.neq=>(equal P 100 t (.agg xs) (.agg ys)).map fun b=>.t (.bool !b)
  |_=>none
 |x,y=>match op,zGP P t x y with
  |.eql,some b=>some (.t (.bool b))
  |.neq,some b=>some (.t (.bool !b))
  |_,_=>none
def zCK:AV→Option Bool
 |.t .nilifc=>some true
 |.t (.ifc _ _)=>some false
 |.ifv _ _=>some false
 |.ifx=>some false
 |_=>none
def zEn(P:Program)(t:TypeId):Bool :=
 match und P t with
 |some (.interface _)=>true
 |_=>false
def qK:Operand→Bool
 |.const _=>true
 |_=>false
def zEe(P:Program)(t:TypeId)(c:Bool)(x y:AV):Option Bool :=
 match zEn P t,zCK x,zCK y with
 |true,some true,some true=>bif c then some true else none
 |true,some true,some false=>some false
 |true,some false,some true=>some false
 |_,_,_=>none
def zCu(P:Program)(op:BinOp)(t:TypeId)(c:Bool)(x y:AV):Option AV :=
 match zCK x with
 |none=>binop P op t x y
 |some _=>match op,zEe P t c x y with
  |.eql,some b=>some (.t (.bool b))
  |.neq,some b=>some (.t (.bool !b))
  |_,_=>none
def unop(op:UnOp)(x:AV):Option AV :=
 match x with
 |.t x=>match scal x with
  |some v=>(zLG (Op.unary op v)).map .t
  |none=>none
 |_=>none
def zD7:List (List Tree)→Option (List Nat)
 |[]=>some []
 |[.int .u8 n]::es=>match zD7 es with
  |some bs=>some (n.toNat % 256::bs)
  |none=>none
 |_=>none
def byteCells(s:List Nat):List (List Tree):=s.map fun b=>[.int .u8 (.ofNat b)]
def yE(P:Program):List (Nat×Nat)→List AV→List (Nat×AV)→Option (List AV)
 |_,cells,[]=>some cells
 |places,cells,(i,v)::rest=>match nth places i with
  |none=>none
  |some (off,size)=>match cellsOf v with
   |some cs=>if cs.length=size∧off+size≤cells.length then yE P places (splice cells off cs) rest else none
   |none=>none
def zeroCells(P:Program)(t:TypeId):Option (List AV) :=
 match info P t with
 |some i=>match i.zero with
  |some z=>match lit z with
   |.t (.agg ts)=>some (ts.map .t)
   |.t x=>some [.t x]
   |_=>none
  |none=>none
 |none=>none
def zFz(P:Program):List Field→Option (List (Nat×Nat))
 |[]=>some []
 |f::fs=>match sizeOf? P f.type with
  |none=>none
  |some n=>match zFz P fs with
   |none=>none
   |some l=>some ((f.offset,n)::l)
def build(P:Program)(t:TypeId)(parts:List (Nat×AV)):Option AV :=
 match zeroCells P t with
 |none=>none
 |some zero=>match und P t with
  |some (.struct fields)=>match zFz P fields.toList with
   |some places=>(yE P places zero parts).map mkAgg
   |none=>none
  |some (.array n elem)=>match sizeOf? P elem with
   |some size=>(yE P ((List.range n).map fun i=>(i * size,size)) zero parts).map mkAgg
   |none=>none
  |_=>none
def qG:List (List AV)→Option (List (List Tree))
 |[]=>some []
 |e::es=>match trees e with
  |none=>none
  |some x=>match qG es with
   |none=>none
   |some xs=>some (x::xs)
def zAp(s:Nat)(es:List (List AV)):Obj :=
 match qG es with
 |some es=>.arr s 0 false es
 |none=>.marr s 0 es
def wO:AV→Bool
 |.t (.agg _)=>false
 |.t _|.box _ _|.el _ _ _ _|.rp _|.hs _ _|.hsub _ _ _ _|.fn _ _ _|.mp _|.yld _|.ifv _ _|.ifx=>true
 |_=>false
def xV(n:Nat)(zero:List AV)(parts:List (Nat×AV)):Option (List (List AV)) :=
 go (List.replicate n zero) parts
 where
 go (es:List (List AV)):List (Nat×AV)→Option (List (List AV))
  |[]=>some es
  |(i,v)::rest=>match cellsOf v with
   |some cs=>if i<es.length∧cs.length=zero.length∧cs.all wO=true then go (setN es i cs) rest else none
   |none=>none
abbrev Res:=Option (Out×Patch)
def ret(v:AV):Res:=some (.val v,[])
def retO(o:Option AV):Res:=match o with
 |some v=>some (.val v,[])
 |none=>none
def qB(g:Look)(v:AV):AV×Patch:=(view g v,xB g (yO g v))
def indexAddr(P:Program)(g:Look)(t:TypeId)(x:AV)(i:Int):Option AV :=
 match und P t,x with
 |some (.slice elem),.t (.sl _ _ es)=>match sizeOf? P elem,idx es i with
  |some n,some e=>if e.length=n then some (.rp e) else none
  |_,_=>none
 |some (.slice elem),.hs id ver=>match g id,sizeOf? P elem with
  |some (.arr s ver' _ es),some n=>if ver=ver'∧s=n∧0≤i∧i<es.length then some (.el id ver i.toNat 0) else none
  |some (.marr s ver' es),some n=>if ver=ver'∧s=n∧0≤i∧i<es.length then some (.el id ver i.toNat 0) else none
  |_,_=>none
 |some (.slice elem),.hsub id ver lo len=>match g id,sizeOf? P elem with
  |some (.arr s ver' _ es),some n=>if ver=ver'∧s=n∧0≤i∧i<len∧lo+len≤es.length then some (.el id ver (lo+i.toNat) 0) else none
  |_,_=>none
 |some (.array n elem),x=>match sizeOf? P elem with
  |some s=>if 0≤i∧i<n then zW (i.toNat * s) x else none
  |none=>none
 |_,_=>none
def index(P:Program)(t:TypeId)(x:AV)(i:Int):Option AV :=
 match und P t,x with
 |some .string,.t (.str s)=>match idx s i with
  |some b=>some (.t (.int .u8 (.ofNat b)))
  |none=>none
 |some (.array n elem),x=>match sizeOf? P elem with
  |some s=>match zT x with
   |some cs=>if 0≤i∧i<n then part P elem cs (i.toNat * s) else none
   |none=>none
  |none=>none
 |_,_=>none
def kP(n:Nat):List (List Tree)→Bool
 |[]=>true
 |e::_=>Nat.beq e.length n
def slice(P:Program)(g:Look)(t:TypeId)(x:AV)(lo hi mx:Option Int):Option AV :=
 match und P t,x with
 |some .string,.t (.str s) =>
  let l:=lo.getD 0
  let h:=hi.getD s.length
  if mx.isNone∧0≤l∧l≤h∧h≤s.length then some (.t (.str ((s.take h.toNat).drop l.toNat))) else none
 |some (.slice elem),.t (.sl nl clip es)=>match sizeOf? P elem with
  |some n =>
   let l:=lo.getD 0
   let h:=hi.getD es.length
   if 0≤l∧l≤h∧h≤es.length∧kP n es=true then
    match mx with
    |none=>some (.t (.sl nl (clip&&h==es.length) ((es.take h.toNat).drop l.toNat)))
    |some m=>if m=h∧hi.isSome=true then some (.t (.sl nl true ((es.take h.toNat).drop l.toNat))) else none
   else none
  |none=>none
 |some (.slice elem),.hs id ver=>match g id,sizeOf? P elem with
  |some (.arr s ver' _ es),some n =>
   let l:=lo.getD 0
   let h:=hi.getD es.length
   if ver=ver'∧s=n∧0≤l∧l≤h∧h≤es.length then
    match mx with
    |none=>some (.hsub id ver l.toNat (h.toNat - l.toNat))
    |some m=>if m=h∧h=l∧hi.isSome=true then some (.t (.sl false true [])) else none
   else none
  |_,_=>none
 |some (.slice elem),.hsub id ver lo0 len=>match g id,sizeOf? P elem with
  |some (.arr s ver' _ es),some n =>
   let l:=lo.getD 0
   let h:=hi.getD len
   if ver=ver'∧s=n∧lo0+len≤es.length∧0≤l∧l≤h∧h≤len∧mx.isNone=true then some (.hsub id ver (lo0+l.toNat) (h.toNat - l.toNat)) else none
  |_,_=>none
 |_,_=>none
def zO5(i:TypeInfo):Bool :=
 match i.zero with
 |some z=>Nat.beq z.cells.toList.length i.size
 |none=>false
def small(P:Program)(t:TypeId)(n:Nat):Bool :=
 match info P t with
 |some i=>i.bytes≤8192&&n<4294967296&&zO5 i
 |none=>false
def added(g:Look):AV→Option (List (List Tree))
 |.t (.str s)=>some (byteCells s)
 |v=>elems g v
def yD(P:Program)(t:TypeId):Bool :=
 match und P t with
 |some (.int _)=>false
 |some _=>true
 |none=>false
def lens(n:Nat)(es:List (List Tree)):Bool:=es.all fun e=>Nat.beq e.length n
def append(P:Program)(g:Look)(nid:Nat)(t t':TypeId)(s x:AV):Res :=
 match und P t with
 |some (.slice elem)=>match added g x,sizeOf? P elem,yD P t' with
  |some new,some n,true =>
   match s with
   |.t (.sl _ clip es) =>
    match new with
    |[]=>ret s
    |e::new =>
     if clip=true∧lens n (e::new)=true∧kP n es=true∧small P elem (es.length+(e::new).length)=true∧0<n then
      some (.val (.hs nid 0),[(nid,.arr n 0 false (es++e::new))])
     else none
   |.hs id ver=>match g id with
    |some (.arr s ver' false es) =>
     if ver=ver'∧s=n∧lens n new=true∧small P elem (es.length+new.length)=true∧0<n then
      some (.val (.hs id (ver+1)),[(id,.arr s (ver+1) false (es++new))])
     else none
    |_=>none
   |_=>none
  |_,_,_=>none
 |_=>none
def kO(lt:Bool):AV→List AV→Option AV
 |x,[]=>some x
 |.t (.int k a),.t (.int k' b)::rest =>
  if k=k' then kO lt (.t (.int k (if (if lt then decide (b<a) else decide (b > a)) then b else a))) rest else none
 |_,_=>none
def convert(P:Program)(g:Look)(nid:Nat)(src dst:TypeId)(x:AV):Res :=
 match und P src,und P dst,x with
 |some _,some (.int k),.t (.int _ n)=>ret (.t (.int k (k.wrap n)))
 |some _,some .string,.t (.str s)=>ret (.t (.str s))
 |some .string,some (.slice e),.t (.str s)=>match und P e with
  |some (.int .u8)=>some (.val (.hs nid 0),[(nid,.arr 1 0 false (byteCells s))])
  |_=>none
 |some (.slice e),some .string,x=>match und P e with
  |some (.int .u8)=>match elems g x with
   |some es=>(match zD7 es with
    |some bs=>ret (.t (.str bs))
    |none=>none)
   |none=>none
  |_=>none
 |_,_,_=>none
def storeAt(g:Look)(a:AV)(cs:List AV):Option Patch :=
 match a with
 |.box id off=>match g id with
  |some (.box old)=>if off+cs.length≤old.length then some [(id,.box (splice old off cs))] else none
  |_=>none
 |.el id ver i off=>match g id with
  |some (.arr s ver' false es)=>if ver=ver' then match nth es i with
    |some e=>if off+cs.length≤e.length then match trees cs with
      |some ts=>some [(id,.arr s ver' false (setN es i (splice e off ts)))]
      |none=>none
     else none
    |none=>none
   else none
  |some (.marr s ver' es)=>if ver=ver' then match nth es i with
    |some e=>if off+cs.length≤e.length then some [(id,.marr s ver' (setN es i (splice e off cs)))] else none
    |none=>none
   else none
  |_=>none
 |_=>none
def upd(g:Look):Patch→Look
 |[]=>g
 |(id,o)::ps=>upd (fun i=>match Nat.beq i id with
  |true=>some o
  |false=>g i) ps
def yX(P:Program)(f:FuncId):Bool :=
 match nth P.funcs.toList f with
 | some fn => fn.body.isSome && fn.name != "runtime.NumGoroutine"
 |none=>false
def vO(g:Look):List Nat→List Nat
 |[]=>[]
 |id::ids=>zCJ (g id)::vO g ids
def xL(g1:Look)(frz:Patch)(nid:Nat)(ids:List Nat)(v:AV)(h':Heap):AV×Patch :=
 match plain v,ids,h' with
 |true,[],[]=>(v,[])
 |_,_,_=>(back ⟨nth h',ids.length,ids,vO g1 ids,nid⟩ depth v,frz++vD ⟨nth h',ids.length,ids,vO g1 ids,nid⟩ 0 h')
def uC(ρ:Oracle)(g1:Look)(frz:Patch)(nid:Nat)(f:FuncId)(args:List AV):Res :=
 match reach g1 100000 (wQ g1 args) [] with
 |none=>none
 |some ids=>match sub g1 ids with
  |none=>none
  |some h=>match ρ f (renL g1 ids args) h with
   |none=>none
   |some (.val v,h')=>some (.val (xL g1 frz nid ids v h').1,(xL g1 frz nid ids v h').2)
   |some (.pan v,h')=>some (.pan (xL g1 frz nid ids v h').1,(xL g1 frz nid ids v h').2)
def zAk(C:Cfg)(ρ:Oracle)(g:Look)(nid:Nat)(f:FuncId)(args:List AV):Res :=
 match C.byRef f with
 |true=>match yX C.P f with
  |true=>uC ρ g [] nid f args
  |false=>none
 |false =>
  match C.prim f (args.map (view g)) with
  |some v=>match plain v,yX C.P f with
   |true,true=>ret v
   |_,_=>none
  |none=>match yX C.P f with
   |true=>uC ρ (upd g (xB g (catMap (yO g) args))) (xB g (catMap (yO g) args)) nid f (args.map (view g))
   |false=>none
def wU:AV→Option AV
 |.box id off=>some (.box id off)
 |.el id ver i off=>some (.el id ver i off)
 |.rp cs=>some (.rp cs)
 |.t (.fn f)=>some (.t (.fn f))
 |.fn f a b=>some (.fn f a b)
 |_=>none
def yV(g:Look):List (Nat×AV)→List (Nat×AV)×Patch
 |[]=>([],[])
 |(i,v)::rest =>
  let (l,p):=yV g rest
  ((i,view g v)::l,xB g (yO g v)++p)
def opds(T:Env):List Operand→List AV
 |[]=>[]
 |x::xs=>zM T x::opds T xs
def qA(T:Env):List (Nat×Operand)→List (Nat×AV)
 |[]=>[]
 |(i,x)::xs=>(i,zM T x)::qA T xs
def zAq(c a b:AV):Res:=match c with
 |.t (.bool true)=>ret a
 |.t (.bool false)=>ret b
 |_=>none
def uY(P:Program)(nid:Nat)(t:TypeId):Res:=match zeroCells P t with
 |some cs=>some (.val (.box nid 0),[(nid,.box cs)])
 |none=>none
def xBox(nid:Nat)(x:AV):Res:=match cellsOf x with
 |some cs=>some (.val (.box nid 0),[(nid,.box cs)])
 |none=>none
def zC1(P:Program)(t:TypeId):Option (List AV) :=
 match zeroCells P t,sizeOf? P t with
 |some z,some n=>if z.length=n∧0<n∧z.all wO=true then some z else none
 |_,_=>none
def wI(P:Program)(g:Look)(nid:Nat)(t:TypeId)(n:Nat)(parts:List (Nat×AV)):Res :=
 match und P t with
 |some (.slice elem)=>match zC1 P elem with
  |some zero =>
   if 16777216<n * zero.length then none else
   match xV n zero (yV g parts).1 with
   |some es=>some (.val (.hs nid 0),(yV g parts).2++[(nid,zAp zero.length es)])
   |none=>none
  |none=>none
 |_=>none
def uQ(P:Program)(g:Look)(t:TypeId)(a x:AV):Res :=
 match sizeOf? P t with
 |some n =>
  let x':AV×Patch:=match a with
   |.el _ _ _ _=>qB g x
   |_=>(x,[])
  match cellsOf x'.1 with
  |some cs=>if cs.length=n∧cs.all wO=true then match storeAt (upd g x'.2) a cs with
    |some p=>some (.val .nov,x'.2++p)
    |none=>none
   else none
  |none=>none
 |none=>none
def zAt(P:Program)(nid:Nat)(t:TypeId)(l c:AV):Res :=
 match und P t,l,c with
 |some (.slice elem),.t (.int _ (.ofNat l)),.t (.int _ (.ofNat c))=>match zC1 P elem with
  |some zero =>
   if l≤c∧(l=c∨l=0)∧small P elem c=true then some (.val (.hs nid 0),[(nid,zAp zero.length (List.replicate l zero))]) else none
  |none=>none
 |_,_,_=>none
def bound(T:Env):Option Operand→Option (Option Int)
 |none=>some none
 |some x=>match zM T x with
  |.t (.int _ n)=>some (some n)
  |_=>none
def zBR(P:Program)(g:Look)(T:Env)(t:TypeId)(x:AV)(lo hi mx:Option Operand):Res :=
 match bound T lo,bound T hi,bound T mx with
 |some lo,some hi,some mx=>retO (slice P g t x lo hi mx)
 |_,_,_=>none
def zP(P:Program)(s:TypeId)(x:AV)(f:Nat):Res :=
 match und P s with
 |some (.struct fields)=>match nth fields.toList f with
  |some fd=>match sizeOf? P fd.type with
   |some (_+1)=>retO (zW fd.offset x)
   |_=>none
  |none=>none
 |_=>none
def yB(P:Program)(s:TypeId)(x:AV)(f:Nat):Res :=
 match und P s with
 |some (.struct fields)=>match nth fields.toList f with
  |some fd=>match zT x with
   |some cs=>retO (part P fd.type cs fd.offset)
   |none=>none
  |none=>none
 |_=>none
def xM(P:Program)(g:Look)(t:TypeId)(x i:AV):Res :=
 match i with
 |.t (.int _ n)=>retO (indexAddr P g t x n)
 |_=>none
def uZ(P:Program)(t:TypeId)(x i:AV):Res :=
 match i with
 |.t (.int _ n)=>retO (index P t x n)
 |_=>none
def zIu(P:Program)(nid:Nat)(t:TypeId)(x:AV):Res :=
 match und P t,x with
 |some .string,.t (.str s)=>some (.val (.box nid 0),[(nid,.siter s 0)])
 |_,_=>none
def zGL(g:Look)(it:AV):Res :=
 match it with
 |.box id 0=>match g id with
  |some (.siter s pos) =>
   if pos<s.length then
    let cw:=Utf8.decode ⟨(s.map UInt8.ofNat).toArray⟩ pos
    some (.val (.tup [.t (.bool true),.t (.int .i64 (.ofNat pos)),.t (.int .i32 (.ofNat cw.1))]),[(id,.siter s (pos+cw.2))])
   else ret (.tup [.t (.bool false)])
  |_=>none
 |_=>none
def wK(t:AV)(i:Nat):Res :=
 match t with
 |.tup vs=>retO (nth vs i)
 |_=>none
def xLen(P:Program)(g:Look)(t:TypeId):List AV→Res
 |[x]=>match und P t,x with
  |some (.array n _),_=>ret (.t (.int .i64 (.ofNat n)))
  |some .string,.t (.str s)=>ret (.t (.int .i64 (.ofNat s.length)))
  |some (.slice _),x=>match lenOf g x with
   |some n=>ret (.t (.int .i64 (.ofNat n)))
   |none=>none
  |_,_=>none
 |_=>none
def wB(P:Program)(g:Look)(nid:Nat)(b:Builtin)(ts:List TypeId)(args:List AV):Res :=
 match b,ts,args with
 |.len,t::_,args=>xLen P g t args
 |.append,[t,t'],[s,x]=>append P g nid t t' s x
 |.max,_,x::rest=>retO (kO false x rest)
 |.min,_,x::rest=>retO (kO true x rest)
 |_,_,_=>none
def zB5(P:Program)(t:TypeId)(x:AV):Res :=
 match und P t with
 |some (.interface _)=>none
 |some _=>match x with
  |.t v=>ret (.t (.ifc t v))
  |.box id off=>ret (.ifv t (.box id off))
  |.mp id=>ret (.ifv t (.mp id))
  |_=>none
 |none=>none
def zBS(P:Program)(t:TypeId):Option AV :=
 match info P t with
 |some i=>match i.zero with
  |some z=>some (lit z)
  |none=>none
 |none=>none
def jT(P:Program)(x:AV)(t:TypeId)(ok:Bool):Res :=
 match und P t with
 |some (.interface _)=>none
 |some _=>match x with
  |.t (.ifc u v)=>match Nat.beq u t,ok with
   |true,true=>ret (.tup [.t v,.t (.bool true)])
   |true,false=>ret (.t v)
   |false,true=>(match zBS P t with
    |some z=>ret (.tup [z,.t (.bool false)])
    |none=>none)
   |false,false=>none
  |.t .nilifc=>match ok with
   |true=>(match zBS P t with
    |some z=>ret (.tup [z,.t (.bool false)])
    |none=>none)
   |false=>none
  |.ifv u v=>match Nat.beq u t,ok with
   |true,true=>ret (.tup [v,.t (.bool true)])
   |true,false=>ret v
   |false,true=>(match zBS P t with
    |some z=>ret (.tup [z,.t (.bool false)])
    |none=>none)
   |false,false=>none
  |_=>none
 |none=>none
def zBM(x:AV):Res :=
 match x with
 |.t (.ifc t v)=>some (.pan (.t (.ifc t v)),[])
 |_=>none
def jU:TypeDesc→Tree→Tree→Option Bool
 |.int _,.int k a,.int k' b=>if k=k' then some (a==b) else none
 |.string,.str a,.str b=>some (beqL a b)
 |.bool,.bool a,.bool b=>some (a==b)
 |_,_,_=>none
def zAZ:TypeDesc→Tree→Bool
 |.int _,.int _ _=>true
 |.string,.str _=>true
 |.bool,.bool _=>true
 |_,_=>false
def mfind(kd:TypeDesc)(k:Tree):List (Tree×AV)→Nat→Option (Option (Nat×AV))
 |[],_=>some none
 |e::es,i=>match jU kd k e.1 with
  |some true=>some (some (i,e.2))
  |some false=>mfind kd k es (i+1)
  |none=>none
def vW(g:Look):AV→Option (List (Tree×AV))
 |.t .nilmap=>some []
 |.mp id=>match g id with
  |some (.map es)=>some es
  |_=>none
 |_=>none
def kQ(P:Program)(g:Look)(t:TypeId)(x i:AV)(ok:Bool):Res :=
 match und P t,vW g x,i with
 |some (.map key elem),some es,.t k=>match und P key with
  |some kd=>match zAZ kd k,mfind kd k es 0 with
   |true,some (some (_,v))=>ret (match ok with
    |true=>.tup [v,.t (.bool true)]
    |false=>v)
   |true,some none=>match zBS P elem with
    |some z=>ret (match ok with
     |true=>.tup [z,.t (.bool false)]
     |false=>z)
    |none=>none
   |_,_=>none
  |none=>none
 |_,_,_=>none
def qM(P:Program)(g:Look)(t:TypeId)(x i v:AV):Res :=
 match und P t,x,i with
 |some (.map key _),.mp id,.t k=>match g id with
  |some (.map es)=>match und P key with
   |some kd=>match zAZ kd k,mfind kd k es 0 with
    |true,some (some (j,_))=>some (.val .nov,[(id,.map (setN es j (k,v)))])
    |true,some none=>some (.val .nov,[(id,.map (es++[(k,v)]))])
    |_,_=>none
   |none=>none
  |_=>none
 |_,_,_=>none
def vK:Nat:=2000000
def xD:Nat:=1000000
def qS(C:Cfg)(ρ:Oracle)(g:Look)(nid:Nat)(T:Env)(c:Call):Res :=
 match c.callee with
 |.value f=>match zM T f with
  |.t (.fn f)=>zAk C ρ g nid f (opds T c.args.toList)
  |.fn f first captured=>zAk C ρ g nid f (first++(opds T c.args.toList++captured))
  |.yld id=>uC ρ g [] nid vK (.yld id::opds T c.args.toList)
  |_=>none
 |.builtin .panic=>match opds T c.args.toList with
  |[x]=>zBM x
  |_=>none
 |.builtin b=>wB C.P g nid b c.argTypes.toList (opds T c.args.toList)
 |_=>none
def exec1(C:Cfg)(ρ:Oracle)(g:Look)(nid:Nat)(T:Env)(o:Oper):Res :=
 match o.op with
 |.move x|.assign x=>ret (zM T x)
 |.pick c a b=>zAq (zM T c) (zM T a) (zM T b)
 |.alloc t=>uY C.P nid t
 |.box _ x=>xBox nid (zM T x)
 |.build t parts=>retO (build C.P t (qA T parts.toList))
 |.buildSlice t n parts=>wI C.P g nid t n (qA T parts.toList)
 |.load t a=>retO (load C.P g t (zM T a))
 |.store t a x=>uQ C.P g t (zM T a) (zM T x)
 |.nilCheck x=>retO (wU (zM T x))
 |.binOp op t x y _=>retO (zCu C.P op t (qK x||qK y) (zM T x) (zM T y))
 |.unOp op _ x=>retO (unop op (zM T x))
 |.convert s d x=>convert C.P g nid s d (zM T x)
 |.makeFunc (.func f) first captured=>ret (.fn f (opds T first.toList) (opds T captured.toList))
 |.makeSlice t l c=>zAt C.P nid t (zM T l) (zM T c)
 |.slice t x lo hi mx=>zBR C.P g T t (zM T x) lo hi mx
 |.fieldAddr s x f=>zP C.P s (zM T x) f
 |.field s x f=>yB C.P s (zM T x) f
 |.indexAddr t x i=>xM C.P g t (zM T x) (zM T i)
 |.index t x i=>uZ C.P t (zM T x) (zM T i)
 |.range t x=>zIu C.P nid t (zM T x)
 |.next it true=>zGL g (zM T it)
 |.extract t i=>wK (zM T t) i
 |.call c=>qS C ρ g nid T c
 |.makeInterface t x=>zB5 C.P t (zM T x)
 |.typeAssert x _ t ok=>jT C.P (zM T x) t ok
 |.panic x=>zBM (zM T x)
 |.makeMap _ none=>some (.val (.mp nid),[(nid,.map [])])
 |.lookup t x i ok=>kQ C.P g t (zM T x) (zM T i) ok
 |.insert t m k v=>qM C.P g t (zM T m) (zM T k) (zM T v)
 |.mapUpdate t m k v=>qM C.P g t (zM T m) (zM T k) (zM T v)
 |_=>none
def putT(T:Env)(d:Option Tmp)(v:AV):Env :=
 match d with
 |some d=>(d,v)::T
 |none=>T
def put1:Heap→Nat→Obj→Heap
 |[],0,o=>[o]
 |[],n+1,o=>.dead::put1 [] n o
 |_::h,0,o=>o::h
 |a::h,n+1,o=>a::put1 h n o
def patch(h:Heap):Patch→Heap
 |[]=>h
 |(id,o)::ps=>patch (put1 h id o) ps
def wanted(ops:List Oper)(T:Env)(o:Oper):Option Bool :=
 match o.guard with
 |none=>some true
 |some (j,want)=>match nth ops j with
  |some oj=>match oj.dst with
   |some d=>match get T d with
    |.t (.bool b)=>some (b==want)
    |.nov=>some false
    |_=>none
   |none=>none
  |none=>none
structure Rec where
 reads:List Nat
 v:AV
 p:Patch
def Rec.mods(r:Rec):List Nat:=r.p.map (·.1)
def names:Nat→AV→List Nat
 |0,_=>[]
 |d+1,v=>match v with
  |.box id _=>[id]
  |.el id _ _ _=>[id]
  |.hs id _=>[id]
  |.hsub id _ _ _=>[id]
  |.agg cs=>catMap (names d) cs
  |.fn _ a b=>catMap (names d) a++catMap (names d) b
  |.tup vs=>catMap (names d) vs
  |.mp id=>[id]
  |.yld id=>[id]
  |.dfr vs=>catMap (names d) vs
  |.ifv _ v=>names d v
  |_=>[]
def zAg(vs:List AV):List Nat:=catMap (names depth) vs
def zHW:Obj→List Nat
 |.box cs=>zAg cs
 |.marr _ _ es=>catMap zAg es
 |.map es=>catMap (fun e=>names depth e.2) es
 |.loop _ T _ _=>catMap (fun e=>names depth e.2) T
 |_=>[]
def zGA(g:Look)(id:Nat):List Nat :=
 match g id with
 |some o=>zHW o
 |none=>[]
def zIh(g1:Look)(args:List AV):List Nat :=
 match reach g1 100000 (wQ g1 args) [] with
 |none=>[]
 |some ids=>ids++catMap (zGA g1) ids
def zI0(C:Cfg)(g:Look)(f:FuncId)(args:List AV):List Nat :=
 match C.byRef f with
 |true=>zAg args++zIh g args
 |false=>zAg args++match C.prim f (args.map (view g)) with
  |some _=>[]
  |none=>zIh (upd g (xB g (catMap (yO g) args))) (args.map (view g))
def foot(C:Cfg)(g:Look)(T:Env)(o:Oper):List Nat :=
 match o.op with
 |.load _ a=>names depth (zM T a)
 |.store _ a x=>names depth (zM T a)++names depth (zM T x)
 |.convert _ _ x=>names depth (zM T x)
 |.slice _ x _ _ _=>names depth (zM T x)
 |.indexAddr _ x _=>names depth (zM T x)
 |.next it _=>names depth (zM T it)
 |.lookup _ x _ _=>names depth (zM T x)
 |.insert _ m _ _=>names depth (zM T m)
 |.mapUpdate _ m _ _=>names depth (zM T m)
 |.buildSlice _ _ parts=>zAg ((qA T parts.toList).map (·.2))
 |.call c=>match c.callee with
  |.value f=>match zM T f with
   |.t (.fn f)=>zI0 C g f (opds T c.args.toList)
   |.fn f first captured=>zI0 C g f (first++(opds T c.args.toList++captured))
   |.yld id=>zAg (.yld id::opds T c.args.toList)++zIh g (.yld id::opds T c.args.toList)
   |_=>[]
  |.builtin _=>zAg (opds T c.args.toList)
  |_=>[]
 |_=>[]
def yI(k:Nat)(T:Env):Option (List AV) :=
 match get T k with
 |.unk=>some []
 |.dfr ds=>some ds
 |_=>none
def jE(k:Nat)(d:AV)(T:Env):Option Env :=
 match yI k T with
 |some ds=>some ((k,.dfr (d::ds))::T)
 |none=>none
def deferred(T:Env)(c:Call):Option AV :=
 match c.callee with
 |.value f=>match zM T f with
  |.t (.fn f)=>some (.fn f (opds T c.args.toList) [])
  |.fn f first captured=>some (.fn f (first++opds T c.args.toList) captured)
  |_=>none
 |_=>none
def zAG(o:Oper):Option Call :=
 match o.op with
 |.defer c=>some c
 |_=>none
def xH(C:Cfg)(ρ:Oracle)(k:Nat)(ops:List Oper):List Oper→Env→Heap→Option (Option AV×Env×Heap)
 |[],T,h=>some (none,T,h)
 |o::rest,T,h=>match wanted ops T o with
  |none=>none
  |some false=>xH C ρ k ops rest (putT T o.dst .nov) h
  |some true=>match zAG o with
   |some c=>match deferred T c with
    |some d=>match jE k d T with
     |some T'=>xH C ρ k ops rest (putT T' o.dst .nov) h
     |none=>none
    |none=>none
   |none=>match exec1 C ρ (nth h) h.length T o with
    |none=>none
    |some (.pan v,p)=>some (some v,T,patch h p)
    |some (.val v,p)=>xH C ρ k ops rest (putT T o.dst v) (patch h p)
def uA:Nat→Patch→Bool
 |_,[]=>true
 |n,(id,_)::p=>match Nat.blt id n with
  |true=>uA n p
  |false=>match Nat.beq id n with
   |true=>uA (n+1) p
   |false=>false
def xF(C:Cfg)(ρ:Oracle)(ops:List Oper):List Oper→Env→Heap→Option (List Rec×Env×Heap)
 |[],T,h=>some ([],T,h)
 |o::rest,T,h=>match wanted ops T o with
  |none=>none
  |some false=>match xF C ρ ops rest (putT T o.dst .nov) h with
   |none=>none
   |some (l,T',h')=>some (⟨[],.nov,[]⟩::l,T',h')
  |some true=>match exec1 C ρ (nth h) h.length T o with
   |none=>none
   |some (.pan _,_)=>none
   |some (.val v,p)=>match uA h.length p with
    |false=>none
    |true=>match xF C ρ ops rest (putT T o.dst v) (patch h p) with
     |none=>none
     |some (l,T',h')=>some (⟨foot C (nth h) T o,v,p⟩::l,T',h')
def zLW(a b:List Nat):Bool:=a.all fun x=>!mem x b
def clash(a b:Rec):Bool:=!(zLW a.mods b.reads&&zLW a.reads b.mods&&zLW a.mods b.mods)
def busy(a:Rec):Bool:=!(a.reads.isEmpty&&a.p.isEmpty)
def zBf:List (Rec×Nat)→List (Rec×Nat)
 |[]=>[]
 |(a,i)::rest=>match busy a with
  |true=>(a,i)::zBf rest
  |false=>zBf rest
def uB:Nat→List Rec→List (Rec×Nat)
 |_,[]=>[]
 |i,a::rest=>(a,i)::uB (i+1) rest
def calm(before:List Nat):List (Rec×Nat)→Bool
 |[]=>true
 |(a,i)::rest=>(rest.all fun(b,j)=>(getN before j).testBit i||!clash a b)&&calm before rest
def zCv(masks:List Nat):List Edge→Nat
 |[]=>0
 |e::es=>match Region.binds .any e with
  |true=>Nat.lor (Nat.lor (Nat.shiftLeft 1 e.on) (getN masks e.on)) (zCv masks es)
  |false=>zCv masks es
def zBG:List Nat→List Oper→List Nat
 |acc,[]=>acc
 |acc,o::os=>match zCv acc o.after.toList with
  |n=>zBG (acc++[n]) os
def masks(ops:List Oper):List Nat:=zBG [] ops
def zJf:Nat→List Oper→Bool
 |_,[]=>true
 |i,o::os=>(o.after.toList.all fun e=>!Region.binds .any e||Nat.blt e.on i)&&zJf (i+1) os
def zKv:List Operand→List Nat
 |[]=>[]
 |.tmp t::xs=>t::zKv xs
 |_::xs=>zKv xs
def zOQ(ops:List Oper)(o:Oper):List Nat :=
 match o.guard with
 |none=>[]
 |some (j,_)=>match nth ops j with
  |some oj=>match oj.dst with
   |some d=>[d]
   |none=>[]
  |none=>[]
def looks(ops:List Oper)(o:Oper):List Nat:=zKv o.op.operands.toList++zOQ ops o
def zCC(ops:List Oper)(x y:Oper):Bool :=
 match x.dst with
 |some d=>!mem d (looks ops y)&&(match y.dst with
  |some e=>!Nat.beq d e
  |none=>true)
 |none=>true
def zCl(ops:List Oper)(ms:List Nat):Nat→List Oper→Bool
 |_,[]=>true
 |i,a::rest=>go i a (i+1) rest&&zCl ops ms (i+1) rest
 where
 go (i:Nat) (a:Oper):Nat→List Oper→Bool
  |_,[]=>true
  |j,b::rest=>((getN ms j).testBit i||(zCC ops a b&&zCC ops b a))&&go i a (j+1) rest
def zCD(ops:List Oper):Bool:=zJf 0 ops&&zCl ops (masks ops) 0 ops
def qF(k:Nat):List Oper→Bool
 |[]=>true
 |o::os=>match o.dst with
  |some d=>match Nat.blt d k with
   |true=>qF k os
   |false=>false
  |none=>qF k os
inductive Ex where
 |normal
 |exit (id:Nat)
 |ret
 |pan (v:AV)
 deriving Inhabited
structure St where
 T:Env
 h:Heap
 deriving Inhabited
def region(C:Cfg)(ρ:Oracle)(k:Nat)(ops:List Oper)(draw:Bool)(st:St):Option (Ex×St) :=
 match qF k ops with
 |false=>none
 |true=>match draw with
  |true=>match zCD ops,xF C ρ ops ops st.T st.h with
   |true,some (l,T,h)=>match calm (masks ops) (zBf (uB 0 l)) with
    |true=>some (.normal,⟨T,h⟩)
    |false=>none
   |_,_=>none
  |false=>match xH C ρ k ops ops st.T st.h with
   |none=>none
   |some (none,T,h)=>some (.normal,⟨T,h⟩)
   |some (some v,T,h)=>some (.pan v,⟨T,h⟩)
def wF:Code→Option Nat
 |.region id _ _=>some id
 |.seq a b=>match wF a with
  |some id=>some id
  |none=>wF b
 |.cond _ a b=>match wF a with
  |some id=>some id
  |none=>wF b
 |.block _ b=>wF b
 |.loop b=>wF b
 |.scope b=>wF b
 |_=>none
def zCk(k:Nat)(T:Env)(ks:List Nat):List Nat :=
 match get T k with
 |.unk=>ks
 |_=>match mem k ks with
  |true=>ks
  |false=>k::ks
def tidy(m k:Nat)(keep:Option (List Nat))(st:St):Option St :=
 match keep with
 |none=>some st
 |some ks =>
  match canon st.h m ((zCk k st.T ks).map (get st.T)) with
  |some (vs,h)=>some ⟨(zCk k st.T ks).zip vs,h⟩
  |none=>none
def zFX(C:Cfg)(ρ:Oracle)(g:Look)(nid:Nat)(f:AV)(args:List AV):Res :=
 match f with
 |.t (.fn f)=>zAk C ρ g nid f args
 |.fn f first captured=>zAk C ρ g nid f (first++(args++captured))
 |_=>none
def xN(keep:Nat→Option (List Nat))(b:Code):Option (List Nat) :=
 match wF b with
 |some r=>keep r
 |none=>none
def zD5(k:Nat)(keep:Option (List Nat))(T:Env):Option Env :=
 match keep with
 |none=>match get T k with
  |.unk=>some T
  |_=>none
 |some ks=>match mem k ks with
  |true=>none
  |false=>some (ks.zip (ks.map (get T)))
def kfOf(keep:Nat→Option (List Nat)):Nat :=
 match keep 999999999 with
 |some (f::_)=>f
 |_=>0
def zEA(jump:Option Code)(st:St):Option (Ex×St) :=
 match jump with
 |none=>some (.normal,st)
 |some (.exit id)=>some (.exit id,st)
 |some .ret=>some (.ret,st)
 |_=>none
def zEt(C:Cfg)(ρ:Oracle)(k:Nat)(keep:Nat→Option (List Nat))(f:Operand)(ps:List Nat)(asg body:Code)(st:St):Option (Ex×St) :=
 match zD5 k (xN keep body) st.T,jE k .nov st.T with
 |some T',some T1 =>
  match zFX C ρ (upd (nth st.h) [(st.h.length,.loop ⟨k,kfOf keep,ps,asg,body⟩ T' 0 none)]) (st.h.length+1) (zM st.T f) [.yld st.h.length] with
  |none=>none
  |some (.pan _,_)=>none
  |some (.val _,p)=>match nth (patch (patch st.h [(st.h.length,.loop ⟨k,kfOf keep,ps,asg,body⟩ T' 0 none)]) p) st.h.length with
   |some (.loop c T2 b jump)=>match Nat.beq b 1 with
    |true=>none
    |false=>zEA jump ⟨T1,patch (patch (patch st.h [(st.h.length,.loop ⟨k,kfOf keep,ps,asg,body⟩ T' 0 none)]) p) [(st.h.length,.loop c T2 3 jump)]⟩
   |_=>none
 |_,_=>none
def iter(gc:St→Option St)(body:St→Option (Ex×St)):Nat→St→Option (Ex×St)
 |0,_=>none
 |n+1,st=>match gc st with
  |none=>none
  |some st=>match body st with
   |some (.normal,st)=>iter gc body n st
   |r=>r
def exec(C:Cfg)(ρ:Oracle)(n m k:Nat)(keep:Nat→Option (List Nat)):Code→St→Option (Ex×St)
 |.skip,st=>some (.normal,st)
 |.region _ ops draw,st=>region C ρ k ops.toList draw st
 |.seq a b,st=>match exec C ρ n m k keep a st with
  |some (.normal,st)=>exec C ρ n m k keep b st
  |r=>r
 |.cond c a b,st=>match zM st.T c with
  |.t (.bool true)=>exec C ρ n m k keep a st
  |.t (.bool false)=>exec C ρ n m k keep b st
  |_=>none
 |.block id b,st=>match exec C ρ n m k keep b st with
  |some (.exit id',st)=>if id'=id then some (.normal,st) else some (.exit id',st)
  |r=>r
 |.loop b,st=>iter (tidy m k (xN keep b)) (exec C ρ n m k keep b) n st
 |.rangeFunc f ps asg body,st=>zEt C ρ k keep f ps.toList asg body st
 |.exit id,st=>some (.exit id,st)
 |.scope b,st=>exec C ρ n m k keep b st
 |.label _,st=>some (.normal,st)
 |.ret,st=>some (.ret,st)
 |_,_=>none
def zA5(P:Program)(st:St):ResultVar→Option AV
 |.tmp t=>some (get st.T t)
 |.cell a t=>load P (nth st.h) t (get st.T a)
def qQ(P:Program)(st:St):List ResultVar→Option (List AV)
 |[]=>some []
 |r::rs=>match zA5 P st r with
  |none=>none
  |some v=>match qQ P st rs with
   |none=>none
   |some vs=>some (v::vs)
def results(P:Program)(fn:Func)(st:St):Option AV :=
 match qQ P st fn.results.toList with
 |some [v]=>some v
 |some vs=>some (.tup vs)
 |none=>none
def qO(g:Look):AV→List Nat
 |.tup vs=>catMap (yO g) vs
 |v=>yO g v
def yU(C:Cfg)(f:FuncId)(m:Nat)(v:AV)(h:Heap):Option (AV×Heap) :=
 match C.thaw f with
 |true=>match canon h m [v] with
  |some ([v],h)=>some (v,h)
  |_=>none
 |false=>match canon (patch h (xB (nth h) (qO (nth h) v))) m [jV (nth h) v] with
  |some ([v],h)=>some (v,h)
  |_=>none
def zV:Nat→List AV→Env
 |_,[]=>[]
 |i,v::vs=>(i,v)::zV (i+1) vs
abbrev Pn:=Option (Tree×Bool)
def pnAV:Pn→AV
 |none=>.t .nilptr
 |some (x,b)=>.agg [.t x,.t (.bool b)]
def avPn:AV→Option Pn
 |.t .nilptr=>some none
 |.agg [.t x,.t (.bool b)]=>some (some (x,b))
 |_=>none
def zA4(o:Oper):Bool :=
 match o.op with
 |.call c=>match c.callee with
  |.builtin .recover=>c.args.toList.isEmpty
  |_=>false
 |_=>false
def zIV:Op→Bool
 |.move _|.assign _|.load _ _|.binOp _ _ _ _ _|.unOp _ _ _|.typeAssert _ _ _ _|.extract _ _|.field _ _ _|.fieldAddr _ _ _|.makeInterface _ _|.convert _ _ _=>true
 |_=>false
def recovered:Pn→Tree×Pn
 |some (x,false)=>(x,some (x,true))
 |u=>(.nilifc,u)
def qN(C:Cfg)(ρ:Oracle)(ops:List Oper):List Oper→Env→Heap→Pn→Option (Env×Heap×Pn)
 |[],T,h,u=>some (T,h,u)
 |o::rest,T,h,u=>match wanted ops T o with
  |none=>none
  |some false=>qN C ρ ops rest (putT T o.dst .nov) h u
  |some true=>match zA4 o with
   |true=>qN C ρ ops rest (putT T o.dst (.t (recovered u).1)) h (recovered u).2
   |false=>match zIV o.op with
    |true=>match exec1 C ρ (nth h) h.length T o with
     |some (.val v,p)=>qN C ρ ops rest (putT T o.dst v) (patch h p) u
     |_=>none
    |false=>none
def zA9(c:Code):Bool :=
 match c with
 |.region _ ops false=>ops.toList.any zA4
 |.seq a b=>zA9 a||zA9 b
 |.scope a=>zA9 a
 |.block _ a=>zA9 a
 |_=>false
def zE3(r:Option (Ex×St))(u:Pn):Option (Ex×St×Pn) :=
 match r with
 |some (e,st)=>some (e,st,u)
 |none=>none
def uK(C:Cfg)(ρ:Oracle)(n m k:Nat)(keep:Nat→Option (List Nat)):Code→St→Pn→Option (Ex×St×Pn)
 |.region id ops false,st,u=>match ops.toList.any zA4 with
  |true=>match qF k ops.toList with
   |true=>match qN C ρ ops.toList ops.toList st.T st.h u with
    |some (T,h,u)=>some (.normal,⟨T,h⟩,u)
    |none=>none
   |false=>none
  |false=>zE3 (exec C ρ n m k keep (.region id ops false) st) u
 |.seq a b,st,u=>match zA9 a with
  |true=>match uK C ρ n m k keep a st u with
   |some (.normal,st,u)=>zE3 (exec C ρ n m k keep b st) u
   |r=>r
  |false=>match exec C ρ n m k keep a st with
   |some (.normal,st)=>uK C ρ n m k keep b st u
   |some (e,st)=>some (e,st,u)
   |none=>none
 |c,st,u=>zE3 (exec C ρ n m k keep c st) u
def zC8:Pn→Pn
 |some (_,true)=>none
 |u=>u
def zJh(C:Cfg)(ρ:Oracle)(n:Nat)(f:FuncId)(args:List AV)(h:Heap):Option (Out×Heap) :=
 match args with
 |[]=>none
 |a::args=>match avPn a,nth C.P.funcs.toList f with
  |some u,some fn=>match fn.body with
   |none=>none
   |some c =>
    match Nat.ble args.length fn.ntmps with
    |true=>match uK C ρ n h.length fn.ntmps (C.keep f) c ⟨zV 0 args,h⟩ u with
     |some (.normal,st,u)|some (.ret,st,u)=>match yI fn.ntmps st.T,results C.P fn st with
      |some [],some _=>match canon st.h h.length [] with
       |some (_,h)=>some (.val (pnAV (zC8 u)),h)
       |none=>none
      |_,_=>none
     |_=>none
    |false=>none
  |_,_=>none
def zGZ:List Nat→List AV→Env→Option Env
 |[],[],T=>some T
 |p::ps,a::as,T=>zGZ ps as ((p,a)::T)
 |_,_,_=>none
def zCO(C:Cfg)(ρ:Oracle)(n:Nat)(args:List AV)(h:Heap):Option (Out×Heap) :=
 match args with
 |.yld id::as=>match nth h id with
  |some (.loop c T 0 none)=>match zGZ c.ps as ((c.k,.rnd)::T),(Nat.blt id h.length&&dstOKL c.k c.ps) with
   |some T1,true=>match exec C ρ n h.length c.k (C.keep c.kf) c.asg ⟨T1,h⟩ with
    |some (.normal,st)=>match nth st.h id with
     |some (.loop c' T' 0 none)=>match exec C ρ n h.length c.k (C.keep c.kf) c.body ⟨st.T,patch st.h [(id,.loop c' T' 1 none)]⟩ with
      |some (e,st2)=>match endOf e,nth st2.h id with
       |some jump,some (.loop c2 T2 _ _)=>match canon (patch st2.h [(id,.loop c2 T2 (if jump.isNone then 0 else 2) jump)]) h.length [] with
        |some (_,h')=>some (.val (.t (.bool jump.isNone)),h')
        |none=>none
       |_,_=>none
      |none=>none
     |_=>none
    |_=>none
   |_,_=>none
  |_=>none
 |_=>none
 where
 dstOKL (k:Nat):List Nat→Bool
  |[]=>true
  |p::ps=>Nat.blt p k&&dstOKL k ps
 endOf:Ex→Option (Option Code)
  |.normal=>some none
  |.ret=>some (some .ret)
  |.exit id=>some (some (.exit id))
  |.pan _=>none
def leave(C:Cfg)(ρ:Oracle)(f:FuncId)(fn:Func)(m:Nat):List AV→Pn→Env→Heap→Option (Out×Heap)
 |[],none,T,h=>match results C.P fn ⟨T,h⟩ with
  |none=>none
  |some v=>match yU C f m v h with
   |some (v,h)=>some (.val v,h)
   |none=>none
 |[],some (x,false),_,h=>match yU C f m (.t x) h with
  |some (v,h)=>some (.pan v,h)
  |none=>none
 |.nov::ds,u,T,h=>leave C ρ f fn m ds u T h
 |.fn g first captured::ds,u,T,h=>match yX C.P g with
  |true=>match uC ρ (nth h) [] h.length (xD+g) (pnAV u::(first++captured)) with
   |some (.val v,p)=>match avPn v with
    |some u=>leave C ρ f fn m ds u T (patch h p)
    |none=>none
   |_=>none
  |false=>none
 |_,_,_,_=>none
def zCG(C:Cfg)(ρ:Oracle)(n:Nat)(f:FuncId)(fn:Func)(c:Code)(args:List AV)(h:Heap):Option (Out×Heap) :=
 match exec C ρ n h.length fn.ntmps (C.keep f) c ⟨zV 0 args,h⟩ with
 |some (.normal,st)|some (.ret,st)=>match yI fn.ntmps st.T with
  |some []=>match results C.P fn st with
   |none=>none
   |some v=>match yU C f h.length v st.h with
    |some (v,h)=>some (.val v,h)
    |none=>none
  |some ds=>leave C ρ f fn h.length ds none st.T st.h
  |none=>none
 |some (.pan v,st)=>match yI fn.ntmps st.T with
  |some []=>match yU C f h.length v st.h with
   |some (v,h)=>some (.pan v,h)
   |none=>none
  |some ds=>match v with
   |.t x=>leave C ρ f fn h.length ds (some (x,false)) st.T st.h
   |_=>none
  |none=>none
 |_=>none
def zDp(C:Cfg)(ρ:Oracle)(n:Nat)(f:FuncId)(args:List AV)(h:Heap):Option (Out×Heap) :=
 match nth C.P.funcs.toList f with
 |none=>match Nat.beq f vK with
  |true=>zCO C ρ n args h
  |false=>match Nat.ble xD f with
   |true=>zJh C ρ n (f - xD) args h
   |false=>none
 |some fn=>match fn.body with
  |none=>none
  |some c=>match Nat.ble args.length fn.ntmps with
   |true=>zCG C ρ n f fn c args h
   |false=>none
def zBy(C:Cfg):Nat→Oracle
 |0,_,_,_=>none
 |n+1,f,args,h=>zDp C (zBy C n) n f args h
def zI6(C:Cfg)(tbl:Oracle):Nat→Oracle
 |0,_,_,_=>none
 |n+1,f,args,h=>match tbl f args h with
  |some r=>some r
  |none=>zDp C (zI6 C tbl n) n f args h
def yP{α:Type}:∀(l:List α) (n:Nat),nth l n=l[n]?
 |[],n=>by simp [nth]
 |a::l,0=>by simp [nth]
 |a::l,n+1=>by simp [nth,yP l n]
def qP{α:Type}:∀(l:List α) (n:Nat) (x:α),setN l n x=l.set n x
 |[],n,x=>by simp [setN]
 |a::l,0,x=>by simp [setN]
 |a::l,n+1,x=>by simp [setN,qP l n]
def zAv {α:Type} {l:List α} {lo n:Nat} {r:List α} (h:cut l lo n=some r) :
  lo+n≤l.length∧r=(l.drop lo).take n:=by
 unfold cut at h;split at h
 ·exact⟨by assumption,by simpa using h.symm⟩
 cases h
def vL{α:Type}{l:List α}{lo n:Nat}{r:List α}(h:cut l lo n=some r):r.length=n:=by
 obtain⟨h1,rfl⟩:=zAv h;simp;omega
def zDY{α:Type}{l:List α}{lo n:Nat}{r:List α}(h:cut l lo n=some r){i:Nat}(hi:i<n):r[i]?=l[lo+i]?:=by
 obtain⟨h1,rfl⟩:=zAv h;rw[List.getElem?_take_of_lt hi,List.getElem?_drop]
def vC:∀(x y:List Nat),beqL x y=decide (x=y)
 |[],[]=>by simp [beqL]
 |[],_::_=>by simp [beqL]
 |_::_,[]=>by simp [beqL]
 |a::x,b::y=>by
  have ih:=vC x y;unfold beqL;cases h:Nat.beq a b with
  |true=>have:a=b:=Nat.eq_of_beq_eq_true h;simp [ih,this]
  |false=>have:a≠b:=Nat.ne_of_beq_eq_false h;simp [this]
abbrev Imm:=Nat→Nat→Option Value
inductive TR (I:Imm):Tree→Value→Prop
 |bool (b:Bool):TR I (.bool b) (.bool b)
 |int (k:IntKind) (n:Int):TR I (.int k n) (.int k n)
 |str (s:List Nat) (h:∀b ∈ s,b<256):TR I (.str s) (.string ⟨(s.map UInt8.ofNat).toArray⟩)
 |sl (nl clip:Bool) (es:List (List Tree)) (a:Option Addr) (cap s:Nat) (val:Nat→Nat→Value)
   (h0:nl=true→a=none∧es=[]∧cap=0)
   (h1:nl=false→a≠none∧∃b o,(es≠[]→a=some ⟨b,o,none⟩)∧∀(i j:Nat) e c,es[i]?=some e→e[j]?=some c→I b (o+i * s+j)=some (val i j))
   (h2:∀e ∈ es,e.length=s)
   (h3:∀(i j:Nat) e c,es[i]?=some e→e[j]?=some c→TR I c (val i j))
   (h4:es.length≤cap) (h5:clip=true→cap=es.length)
   (h6:∀(i j:Nat) e c,es[i]?=some e→e[j]?=some c→(val i j).oneCell'=true):TR I (.sl nl clip es) (.slice a es.length cap)
 |agg (cs:List Tree) (vs:List Value) (hl:cs.length=vs.length)
   (h:∀(i:Nat) c v,cs[i]?=some c→vs[i]?=some v→TR I c v):TR I (.agg cs) (.agg vs.toArray)
 |ifc (t:TypeId) (x:Tree) (v:Value) (h:TR I x v):TR I (.ifc t x) (.iface t v)
 |nilifc:TR I .nilifc .nilIface
 |fn (f:FuncId):TR I (.fn f) (.func (.func f) #[] #[])
 |nilfn:TR I .nilfn .nilFunc
 |nilptr:TR I .nilptr (.pointer none)
 |nilmap:TR I .nilmap (.map none)
def qC(I J:Imm):Prop:=∀b o v,I b o=some v→J b o=some v
theorem qC.refl(I:Imm):qC I I:=fun _ _ _ h=>h
theorem qC.trans{I J K:Imm}(h:qC I J)(h':qC J K):qC I K:=fun b o v x=>h' b o v (h b o v x)
theorem TR.mono{I J:Imm}(hij:qC I J){x:Tree}{v:Value}(h:TR I x v):TR J x v:=by
 induction h with
 |bool b=>exact .bool b
 |int k n=>exact .int k n
 |str s hs=>exact .str s hs
 |sl nl clip es a cap s val h0 h1 h2 h3 h4 h5 h6 ih =>
  exact .sl nl clip es a cap s val h0 (fun hn=>let ⟨hne,b,o,ha,hc⟩:=h1 hn;⟨hne,b,o,ha,fun i j e c he hc'=>hij _ _ _ (hc i j e c he hc')⟩) h2 ih h4 h5 h6
 |agg cs vs hl h ih=>exact .agg cs vs hl ih
 |ifc t x v h ih=>exact .ifc t x v ih
 |nilifc=>exact .nilifc
 |fn f=>exact .fn f
 |nilfn=>exact .nilfn
 |nilptr=>exact .nilptr
 |nilmap=>exact .nilmap
structure G where
 β:Nat→Option Nat
 sz:Nat→Nat
 imm:Imm
def cur(g:Look)(id:Nat):Option Nat :=
 match g id with
 |some (.arr _ ver _ _)=>some ver
 |some (.marr _ ver _)=>some ver
 |_=>none
def dims(g:Look)(id:Nat):Option (Nat×Nat) :=
 match g id with
 |some (.arr s _ _ es)=>some (s,es.length)
 |some (.marr s _ es)=>some (s,es.length)
 |_=>none
def zDc{g:Look}{id ver:Nat}:fresh g id ver=true↔cur g id=some ver:=by
 unfold fresh cur;split<;>simp_all
 ·exact eq_comm
 exact eq_comm
def Old(g:Look)(id ver:Nat):Prop:=∃c,cur g id=some c∧ver≤c
inductive VR (γ:G) (g:Look):AV→Value→Prop
 |t (x:Tree) (v:Value) (h:TR γ.imm x v):VR γ g (.t x) v
 |nov:VR γ g .nov undef
 |unk (v:Value):VR γ g .unk v
 |box (id off b:Nat) (h:γ.β id=some b) (hc:cur g id=none):VR γ g (.box id off) (.pointer (some ⟨b,off,none⟩))
 |el (id ver i off:Nat) (a:Addr) (ho:Old g id ver)
   (h:cur g id=some ver→∃b s n,γ.β id=some b∧dims g id=some (s,n)∧a=⟨b,i * s+off,none⟩):VR γ g (.el id ver i off) (.pointer (some a))
 |rp (cs:List Tree) (b o:Nat) (val:Nat→Value) (h:∀(j:Nat) c,cs[j]?=some c→γ.imm b (o+j)=some (val j))
   (h':∀(j:Nat) c,cs[j]?=some c→TR γ.imm c (val j)):VR γ g (.rp cs) (.pointer (some ⟨b,o,none⟩))
 |hs (id ver:Nat) (a:Addr) (n cap:Nat) (ho:Old g id ver)
   (h:cur g id=some ver→∃b s,γ.β id=some b∧dims g id=some (s,n)∧a=⟨b,0,none⟩∧n≤cap∧cap * s≤γ.sz id):VR γ g (.hs id ver) (.slice (some a) n cap)
 |hsub (id ver lo len:Nat) (a:Addr) (cap:Nat) (ho:Old g id ver)
   (h:cur g id=some ver→∃b s n,γ.β id=some b∧dims g id=some (s,n)∧len≤cap∧lo+len≤n∧(len≠0→a=⟨b,lo * s,none⟩)):VR γ g (.hsub id ver lo len) (.slice (some a) len cap)
 |agg (cs:List AV) (vs:List Value) (hl:cs.length=vs.length)
   (h:∀(i:Nat) c v,cs[i]?=some c→vs[i]?=some v→VR γ g c v):VR γ g (.agg cs) (.agg vs.toArray)
 |fn (f:FuncId) (as bs:List AV) (us vs:List Value) (hl:as.length=us.length) (hl':bs.length=vs.length)
   (h:∀(i:Nat) c v,as[i]?=some c→us[i]?=some v→VR γ g c v)
   (h':∀(i:Nat) c v,bs[i]?=some c→vs[i]?=some v→VR γ g c v):VR γ g (.fn f as bs) (.func (.func f) us.toArray vs.toArray)
 |tup (cs:List AV) (vs:List Value) (hl:cs.length=vs.length)
   (h:∀(i:Nat) c v,cs[i]?=some c→vs[i]?=some v→VR γ g c v):VR γ g (.tup cs) (.tuple vs.toArray)
 |mp (id b:Nat) (h:γ.β id=some b) (hc:cur g id=none):VR γ g (.mp id) (.map (some b))
 |yld (id b:Nat) (h:γ.β id=some b) (hc:cur g id=none):VR γ g (.yld id) (.func (.yield b) #[] #[])
 |dfr (ds:List AV) (v:Value):VR γ g (.dfr ds) v
 |rnd (v:Value):VR γ g .rnd v
 |ifv (t:TypeId) (x:AV) (v:Value) (h:VR γ g x v):VR γ g (.ifv t x) (.iface t v)
 |ifx (t:TypeId) (v:Value):VR γ g .ifx (.iface t v)
def VRs(γ:G)(g:Look)(xs:List AV)(vs:List Value):Prop :=
 xs.length=vs.length∧∀(i:Nat) x v,xs[i]?=some x→vs[i]?=some v→VR γ g x v
theorem VRs.nil{γ:G}{g:Look}:VRs γ g [] []:=⟨rfl,fun _ _ _ h=>by simp at h⟩
theorem VRs.cons{γ:G}{g:Look}{x:AV}{v:Value}{xs:List AV}{vs:List Value}(h:VR γ g x v)(hs:VRs γ g xs vs):VRs γ g (x::xs) (v::vs):=by
 refine⟨by simp [hs.1],fun i y u hy hu=>?_⟩;cases i with
 |zero=>simp at hy hu;subst hy;subst hu;exact h
 |succ i=>exact hs.2 i y u (by simpa using hy) (by simpa using hu)
theorem VRs.head{γ:G}{g:Look}{x:AV}{v:Value}{xs:List AV}{vs:List Value}(h:VRs γ g (x::xs) (v::vs)):VR γ g x v:=h.2 0 x v rfl rfl
theorem VRs.tail{γ:G}{g:Look}{x:AV}{v:Value}{xs:List AV}{vs:List Value}(h:VRs γ g (x::xs) (v::vs)):VRs γ g xs vs :=
 ⟨by simpa using h.1,fun i y u hy hu=>h.2 (i+1) y u (by simpa using hy) (by simpa using hu)⟩
theorem VRs.cases_cons{γ:G}{g:Look}{x:AV}{xs:List AV}{vs:List Value}(h:VRs γ g (x::xs) vs):∃v vs',vs=v::vs'∧VR γ g x v∧VRs γ g xs vs':=by
 cases vs with
 |nil=>simp [VRs] at h
 |cons v vs'=>exact⟨v,vs',rfl,h.head,h.tail⟩
theorem VRs.nil_inv{γ:G}{g:Look}{vs:List Value}(h:VRs γ g [] vs):vs=[]:=by
 exact List.eq_nil_of_length_eq_zero h.1.symm
theorem VRs.append{γ:G}{g:Look}{xs ys:List AV}{vs us:List Value}(h:VRs γ g xs vs)(h':VRs γ g ys us):VRs γ g (xs++ys) (vs++us):=by
 induction xs generalizing vs with
 |nil=>rw[h.nil_inv];exact h'
 |cons x xs ih=>obtain⟨v,vs',rfl,hx,hxs⟩:=h.cases_cons;exact .cons hx (ih hxs)
structure Ext (γ:G) (g:Look) (γ':G) (g':Look):Prop where
 imm:qC γ.imm γ'.imm
 box:∀id b,γ.β id=some b→cur g id=none→γ'.β id=some b∧cur g' id=none
 arr:∀id c,cur g id=some c→∃c',cur g' id=some c'∧c≤c'∧(c'=c→γ'.β id=γ.β id∧γ'.sz id=γ.sz id∧dims g' id=dims g id)
theorem Ext.refl(γ:G)(g:Look):Ext γ g γ g:=⟨.refl _,fun _ _ h h'=>⟨h,h'⟩,fun _ c h=>⟨c,h,Nat.le_refl _,fun _=>⟨rfl,rfl,rfl⟩⟩⟩
theorem Ext.trans{γ₁ γ₂ γ₃:G}{g₁ g₂ g₃:Look}(h:Ext γ₁ g₁ γ₂ g₂)(h':Ext γ₂ g₂ γ₃ g₃):Ext γ₁ g₁ γ₃ g₃:=by
 refine⟨h.imm.trans h'.imm,fun id b hb hc=>?_,fun id c hc=>?_⟩
 ·obtain⟨h1,h2⟩:=h.box id b hb hc;exact h'.box id b h1 h2
 obtain⟨c₂,h1,h2,h3⟩:=h.arr id c hc;obtain⟨c₃,h4,h5,h6⟩:=h'.arr id c₂ h1;refine⟨c₃,h4,by omega,fun he=>?_⟩;obtain⟨a1,a2,a3⟩:=h6 (by omega);obtain⟨b1,b2,b3⟩:=h3 (by omega);exact⟨a1.trans b1,a2.trans b2,a3.trans b3⟩
theorem Old.mono{γ γ':G}{g g':Look}(e:Ext γ g γ' g'){id ver:Nat}(h:Old g id ver):Old g' id ver:=by
 obtain⟨c,hc,hv⟩:=h;obtain⟨c',h1,h2,_⟩:=e.arr id c hc;exact⟨c',h1,by omega⟩
theorem Ext.back {γ γ':G} {g g':Look} (e:Ext γ g γ' g') {id ver:Nat} (ho:Old g id ver) (h:cur g' id=some ver) :
  cur g id=some ver∧γ'.β id=γ.β id∧γ'.sz id=γ.sz id∧dims g' id=dims g id:=by
 obtain⟨c,hc,hv⟩:=ho;obtain⟨c',h1,h2,h3⟩:=e.arr id c hc;rw[h1] at h;cases h;have:c=ver:=by omega
 subst this;exact⟨hc,h3 rfl⟩
theorem VR.mono{γ γ':G}{g g':Look}(e:Ext γ g γ' g'){x:AV}{v:Value}(h:VR γ g x v):VR γ' g' x v:=by
 induction h with
 |t x v h=>exact .t x v (h.mono e.imm)
 |nov=>exact .nov
 |unk v=>exact .unk v
 |box id off b h hc=>obtain⟨h1,h2⟩:=e.box id b h hc;exact .box id off b h1 h2
 |el id ver i off a ho h =>
  refine .el id ver i off a (ho.mono e) fun hc=>?_
  obtain⟨h1,h2,h3,h4⟩:=e.back ho hc;obtain⟨b,s,n,a1,a2,a3⟩:=h h1;exact⟨b,s,n,h2.trans a1,h4.trans a2,a3⟩
 |rp cs b o val h h'=>exact .rp cs b o val (fun j c hc=>e.imm _ _ _ (h j c hc)) (fun j c hc=>(h' j c hc).mono e.imm)
 |hs id ver a n cap ho h =>
  refine .hs id ver a n cap (ho.mono e) fun hc=>?_
  obtain⟨h1,h2,h3,h4⟩:=e.back ho hc;obtain⟨b,s,a1,a2,a3,a4,a5⟩:=h h1;exact⟨b,s,h2.trans a1,h4.trans a2,a3,a4,by rw[h3];exact a5⟩
 |hsub id ver lo len a cap ho h =>
  refine .hsub id ver lo len a cap (ho.mono e) fun hc=>?_
  obtain⟨h1,h2,h3,h4⟩:=e.back ho hc;obtain⟨b,s,n,a1,a2,a3,a4,a5⟩:=h h1;exact⟨b,s,n,h2.trans a1,h4.trans a2,a3,a4,a5⟩
 |agg cs vs hl h ih=>exact .agg cs vs hl ih
 |fn f as bs us vs hl hl' h h' ih ih'=>exact .fn f as bs us vs hl hl' ih ih'
 |tup cs vs hl h ih=>exact .tup cs vs hl ih
 |mp id b h hc=>obtain⟨h1,h2⟩:=e.box id b h hc;exact .mp id b h1 h2
 |yld id b h hc=>obtain⟨h1,h2⟩:=e.box id b h hc;exact .yld id b h1 h2
 |dfr ds v=>exact .dfr ds v
 |rnd v=>exact .rnd v
 |ifv t x v h ih=>exact .ifv t x v ih
 |ifx t v=>exact .ifx t v
theorem VRs.mono{γ γ':G}{g g':Look}(e:Ext γ g γ' g'){xs:List AV}{vs:List Value}(h:VRs γ g xs vs):VRs γ' g' xs vs :=
 ⟨h.1,fun i x v hx hv=>(h.2 i x v hx hv).mono e⟩
def ERel(γ:G)(g:Look)(e:Tree×AV)(x:MapEntry):Prop:=TR γ.imm e.1 x.key∧VR γ g e.2 x.val
def zMQ:LoopState→Nat
 |.ready=>0
 |.busy=>1
 |.done=>2
 |.exhausted=>3
structure LR (γ:G) (g:Look) (c:LoopC) (T:List (Nat×AV)) (st:Nat) (j:Option Code) (r:Loop):Prop where
 ps:r.params.toList=c.ps
 asg:r.assign=c.asg
 body:r.body=c.body
 sz:c.k≤r.tmps.size
 st:zMQ r.state=st
 j:r.pending=j
 er:∀t,VR γ g (get T t) (r.tmps.getD t undef)
theorem ERel.mono{γ γ':G}{g g':Look}(e:Ext γ g γ' g'){x:Tree×AV}{y:MapEntry}(h:ERel γ g x y):ERel γ' g' x y:=⟨h.1.mono e.imm,h.2.mono e⟩
theorem LR.mono{γ γ':G}{g g':Look}(e:Ext γ g γ' g'){c:LoopC}{T:List (Nat×AV)}{st:Nat}{j:Option Code}{r:Loop}(h:LR γ g c T st j r):LR γ' g' c T st j r :=
 ⟨h.ps,h.asg,h.body,h.sz,h.st,h.j,fun t=>(h.er t).mono e⟩
theorem ERel.of{γ γ':G}{g g':Look}{f:AV→AV}(hi:γ'.imm=γ.imm)(hf:∀x u,VR γ g x u→VR γ' g' (f x) u){x:Tree×AV}{y:MapEntry}(h:ERel γ g x y):ERel γ' g' (x.1,f x.2) y :=
 ⟨by rw[hi];exact h.1,hf _ _ h.2⟩
def zP7{f:AV→AV}(h0:f .unk=.unk)(t:Nat):∀(T:List (Nat×AV)),get (T.map fun e=>(e.1,f e.2)) t=f (get T t)
 |[]=>h0.symm
 |(u,v)::T=>by
  simp only[List.map_cons,get];cases Nat.beq u t with
  |true=>rfl
  |false=>exact zP7 h0 t T
theorem LR.of {γ γ':G} {g g':Look} {f:AV→AV} (h0:f .unk=.unk) (hf:∀x u,VR γ g x u→VR γ' g' (f x) u) {c:LoopC} {T:List (Nat×AV)} {st:Nat} {j:Option Code} {r:Loop} (h:LR γ g c T st j r) :
  LR γ' g' c (T.map fun e=>(e.1,f e.2)) st j r :=
 ⟨h.ps,h.asg,h.body,h.sz,h.st,h.j,fun t=>by rw[zP7 h0];exact hf _ _ (h.er t)⟩
def zDO(fr:Nat×Nat)(n:Nat):Prop:=∀i,i<n→¬ (fr.1≤i∧i<fr.2)
def OR(γ:G)(g:Look)(w:World)(id b:Nat):Obj→Prop
 |.box cs=>(∃c ty fr,w.heap[b]?=some (.cells c ty fr)∧zDO fr c.size∧VRs γ g cs c.toList)∧∀o,γ.imm b o=none
 |.arr s _ frz es=>(∃c ty fr,w.heap[b]?=some (.cells c ty fr)∧zDO fr c.size∧c.size=γ.sz id∧es.length * s≤c.size∧(∀e ∈ es,e.length=s) ∧
   (∀(i j:Nat) e t v,es[i]?=some e→e[j]?=some t→c[i * s+j]?=some v→TR γ.imm t v∧v.oneCell'=true) ∧
   (frz=true→∀(i j:Nat) e t,es[i]?=some e→e[j]?=some t→γ.imm b (i * s+j)=c[i * s+j]?))∧(frz=false→∀o,γ.imm b o=none)
 |.marr s _ es=>(∃c ty fr,w.heap[b]?=some (.cells c ty fr)∧zDO fr c.size∧c.size=γ.sz id∧es.length * s≤c.size∧(∀e ∈ es,e.length=s) ∧
   (∀(i j:Nat) e t v,es[i]?=some e→e[j]?=some t→c[i * s+j]?=some v→VR γ g t v))∧∀o,γ.imm b o=none
 |.siter s pos=>w.heap[b]?=some (.stringIter ⟨(s.map UInt8.ofNat).toArray⟩ pos)∧∀o,γ.imm b o=none
 |.map es=>(∃xs clock,w.heap[b]?=some (.map xs clock)∧xs.size=es.length∧∀(i:Nat) e x,es[i]?=some e→xs[i]?=some x→ERel γ g e x)∧∀o,γ.imm b o=none
 |.loop c T st j=>(∃r,w.heap[b]?=some (.loop r)∧LR γ g c T st j r)∧∀o,γ.imm b o=none
 |.dead=>False
structure HR (γ:G) (g:Look) (w:World):Prop where
 obj:∀id b,γ.β id=some b→∃o,g id=some o∧OR γ g w id b o
 inj:∀id id' b,γ.β id=some b→γ.β id'=some b→id=id'
 imm:∀b o v,γ.imm b o=some v→w.cell? ⟨b,o,none⟩=some v
theorem OR.lt{γ:G}{g:Look}{w:World}{id b:Nat}{o:Obj}(h:OR γ g w id b o):b<w.heap.size:=by
 have key:∀x,w.heap[b]?=some x→b<w.heap.size:=fun x hx=>by
  rcases Nat.lt_or_ge b w.heap.size with h|h
  ·exact h
  simp [Array.getElem?_eq_none h] at hx
 cases o with
 |box cs=>obtain⟨⟨c,ty,fr,hb,_⟩,_⟩:=h;exact key _ hb
 |arr s ver frz es=>obtain⟨⟨c,ty,fr,hb,_⟩,_⟩:=h;exact key _ hb
 |marr s ver es=>obtain⟨⟨c,ty,fr,hb,_⟩,_⟩:=h;exact key _ hb
 |siter s pos=>exact key _ h.1
 |map es=>obtain⟨⟨xs,c,hb,_⟩,_⟩:=h;exact key _ hb
 |loop c T st j=>obtain⟨⟨r,hb,_⟩,_⟩:=h;exact key _ hb
 |dead=>exact h.elim
theorem HR.lt{γ:G}{g:Look}{w:World}(h:HR γ g w){id b:Nat}(hb:γ.β id=some b):b<w.heap.size:=by
 obtain⟨o,_,ho⟩:=h.obj id b hb;exact ho.lt
structure Fr (γ:G) (w:World) (γ':G) (w':World):Prop where
 size:w.heap.size≤w'.heap.size
 keep:∀b,b<w.heap.size→(∀id,γ.β id≠some b)→w'.heap[b]?=w.heap[b]?
 rng:∀id b,γ'.β id=some b→w.heap.size≤b∨∃i,γ.β i=some b
 immr:∀b o v,γ'.imm b o=some v→γ.imm b o=some v∨w.heap.size≤b∨∃i,γ.β i=some b
 same:w'.os=w.os∧w'.output=w.output
theorem Fr.refl(γ:G)(w:World):Fr γ w γ w:=⟨Nat.le_refl _,fun _ _ _=>rfl,fun id _ h=>.inr ⟨id,h⟩,fun _ _ _ h=>.inl h,rfl,rfl⟩
theorem Fr.trans{γ₁ γ₂ γ₃:G}{w₁ w₂ w₃:World}(h:Fr γ₁ w₁ γ₂ w₂)(h':Fr γ₂ w₂ γ₃ w₃):Fr γ₁ w₁ γ₃ w₃:=by
 refine⟨Nat.le_trans h.size h'.size,fun b hb hn=>?_,fun id b hb=>?_,fun b o v hv=>?_,h'.same.1.trans h.same.1,h'.same.2.trans h.same.2⟩
 ·have h2:∀id,γ₂.β id≠some b:=fun id hid=>by
   rcases h.rng id b hid with h3|⟨i,h3⟩
   ·omega
   exact hn i h3
  rw[h'.keep b (by have:=h.size;omega) h2,h.keep b hb hn]
 ·rcases h'.rng id b hb with h3|⟨i,h3⟩
  ·exact .inl (by have:=h.size;omega)
  exact h.rng i b h3
 rcases h'.immr b o v hv with h3|h3|⟨i,h3⟩
 ·exact h.immr b o v h3
 ·exact .inr (.inl (by have:=h.size;omega))
 rcases h.rng i b h3 with h4|h4
 ·exact .inr (.inl h4)
 exact .inr (.inr h4)
def Good(γ:G)(g:Look)(w:World)(p:Patch)(v:AV)(r:Result Value):Prop :=
 ∃u w' γ',r=.ok u w'∧Ext γ g γ' (upd g p)∧HR γ' (upd g p) w'∧VR γ' (upd g p) v u∧Fr γ w γ' w'
theorem Good.pure{γ:G}{g:Look}{w:World}{v:AV}{u:Value}(h:HR γ g w)(hv:VR γ g v u):Good γ g w [] v (.ok u w) :=
 ⟨u,w,γ,rfl,.refl _ _,h,hv,.refl _ _⟩
def zDU{P:Program}{t:TypeId}{i:TypeInfo}(h:info P t=some i):P.info? t=some i:=by
 unfold info at h;rw[yP] at h;have ht:t<P.types.size:=by
  rcases Nat.lt_or_ge t P.types.toList.length with h'|h'
  ·simpa using h'
  rw[List.getElem?_eq_none h'] at h;cases h
 unfold Tables.info?;rw[if_pos ht]
 simpa using h
def wZ{P:Program}{t:TypeId}{d:TypeDesc}(h:und P t=some d):P.underlying t=some d:=by
 unfold und at h;split at h
 ·rename_i i hi;have h1:=zDU hi;split at h
  ·rename_i nm u hd;split at h
   ·rename_i j hj;have h2:=zDU hj;unfold Program.underlying;rw[h1];cases i;simp only at hd;subst hd;simp [h2]
    simpa using h
   cases h
  rename_i d' hd;unfold Program.underlying;rw[h1];cases i;simp only at h hd;split
  ·rename_i heq;simp at heq;exact absurd heq.1 (by intro e;exact hd _ _ e)
  ·rename_i heq;simp at heq;subst heq;simpa using h
  rename_i heq;cases heq
 cases h
def zId{P:Program}{t:TypeId}{n:Nat}(h:sizeOf? P t=some n):∃i,P.info? t=some i∧i.size=n:=by
 unfold sizeOf? at h;split at h
 ·rename_i i hi;exact⟨i,zDU hi,by simpa using h⟩
 cases h
def yQ{P:Program}{w:World}{t:TypeId}{d:TypeDesc}(h:und P t=some d):(underlying t).run P w=.ok d w:=by
 simp [underlying,wZ h]
def vR{P:Program}{w:World}{t:TypeId}{n:Nat}(h:sizeOf? P t=some n):(sizeOf t).run P w=.ok n w:=by
 obtain⟨i,hi,hn⟩:=zId h;simp [sizeOf,typeInfo,hi,hn]
def zDb{P:Program}{w:World}{t:TypeId}{b:Bool}(h:agg? P t=some b):(isAgg t).run P w=.ok b w:=by
 unfold agg? at h;unfold isAgg;cases hu:und P t with
 |none=>rw[hu] at h;simp at h
 |some d=>rw[hu] at h;simp only[Sem.run_bind,yQ hu,Result.andThen_ok];cases d<;>simp_all
def vS(b o n:Nat):(⟨b,o,none⟩:Addr).add n=⟨b,o+n,none⟩:=by
 unfold Addr.add;split<;>simp_all
theorem VRs.of_trees {γ:G} {g:Look} {ts:List Tree} {vs:List Value} (hl:ts.length=vs.length)
  (h:∀(i:Nat) c v,ts[i]?=some c→vs[i]?=some v→TR γ.imm c v):VRs γ g (ts.map .t) vs:=by
 refine⟨by simpa using hl,fun i x v hx hv=>?_⟩;rw[List.getElem?_map] at hx;cases hc:ts[i]? with
 |none=>rw[hc] at hx;cases hx
 |some c=>rw[hc] at hx;cases hx;exact .t _ _ (h i c v hc hv)
def zEW:∀ {cs:List AV} {ts:List Tree},trees cs=some ts→cs=ts.map .t
 |[],ts,h=>by simp [trees] at h;subst h;rfl
 |.t x::cs,ts,h=>by
  simp only[trees] at h;split at h
  ·cases h
  rename_i xs hxs;have:=zEW hxs;cases h;subst this;rfl
 |.nov::_,_,h|.unk::_,_,h|.box _ _::_,_,h|.el _ _ _ _::_,_,h|.rp _::_,_,h|.hs _ _::_,_,h
 |.hsub _ _ _ _::_,_,h|.agg _::_,_,h|.fn _ _ _::_,_,h|.tup _::_,_,h=>by simp [trees] at h
theorem VR.of_tree{γ:G}{g:Look}{x:Tree}{v:Value}(h:VR γ g (.t x) v):TR γ.imm x v:=by cases h;assumption
theorem VRs.trees {γ:G} {g:Look} {ts:List Tree} {vs:List Value} (h:VRs γ g (ts.map .t) vs) :
  ts.length=vs.length∧∀(i:Nat) c v,ts[i]?=some c→vs[i]?=some v→TR γ.imm c v :=
 ⟨by simpa using h.1,fun i c v hc hv=>(h.2 i (.t c) v (by simp [hc]) hv).of_tree⟩
theorem VR.mkAgg{γ:G}{g:Look}{cs:List AV}{vs:List Value}(h:VRs γ g cs vs):VR γ g (mkAgg cs) (.agg vs.toArray):=by
 unfold Ab.mkAgg;split
 ·rename_i ts hts;have:=zEW hts;subst this;obtain⟨h1,h2⟩:=h.trees;exact .t _ _ (.agg ts vs h1 h2)
 exact .agg cs vs h.1 h.2
def zJw {γ:G} {g:Look} {x:AV} {v:Value} {cs:List AV} (h:zT x=some cs) (hv:VR γ g x v) :
  ∃vs,v=.agg vs.toArray∧VRs γ g cs vs:=by
 unfold zT at h;split at h
 ·rename_i ts;cases h;cases hv with
  |t _ _ ht=>cases ht with
   |agg cs vs hl h=>exact⟨vs,rfl,.of_trees hl h⟩
 ·rename_i cs';cases h;cases hv with
  |agg cs vs hl h=>exact⟨vs,rfl,hl,h⟩
 cases h
def zCf {γ:G} {g:Look} {x:AV} {v:Value} {cs:List AV} (h:cellsOf x=some cs) (hv:VR γ g x v) :
  VRs γ g cs v.cells.toList:=by
 unfold cellsOf at h;split at h
 ·rename_i ts;cases h;cases hv with
  |t _ _ ht=>cases ht with
   |agg cs vs hl h=>exact .of_trees hl h
 ·rename_i cs';cases h;cases hv with
  |agg cs vs hl h=>exact⟨hl,h⟩
 ·cases h
 ·cases h
 ·cases h
 ·cases h
 ·cases h
 rename_i h1 h2 h3 h4 h5 h6 h7;cases h;have key:v.cells=#[v]:=by
  cases hv with
  |t x v ht=>cases ht<;>first|rfl|exact absurd rfl (h1 _)
  |agg=>exact absurd rfl (h2 _)
  |nov=>exact absurd rfl h4
  |unk=>exact absurd rfl h3
  |tup=>exact absurd rfl (h5 _)
  |dfr=>exact absurd rfl (h6 _)
  |rnd=>exact absurd rfl h7
  |_=>rfl
 rw[key];exact .cons hv .nil
def zAd{w w':World}{b o:Nat}(h:w'.heap[b]?=w.heap[b]?):w'.cell? ⟨b,o,none⟩=w.cell? ⟨b,o,none⟩:=by
 unfold World.cell?;simp only[h]
def zEU{w:World}{b o:Nat}{v:Value}(h:w.cell? ⟨b,o,none⟩=some v):b<w.heap.size:=by
 rcases Nat.lt_or_ge b w.heap.size with h'|h'
 ·exact h'
 unfold World.cell? at h;simp [Array.getElem?_eq_none h'] at h
theorem OR.mono {γ γ':G} {g g':Look} {w w':World} {id b:Nat} {o:Obj} (e:Ext γ g γ' g') (hb:w'.heap[b]?=w.heap[b]?) (hs:γ'.sz id=γ.sz id)
  (hi:∀i,γ'.imm b i=γ.imm b i) (h:OR γ g w id b o):OR γ' g' w' id b o:=by
 cases o with
 |box cs =>
  obtain⟨⟨c,ty,fr,h1,h2,h3⟩,h4⟩:=h;exact⟨⟨c,ty,fr,hb.trans h1,h2,h3.mono e⟩,fun i=>(hi i).trans (h4 i)⟩
 |arr s ver frz es =>
  obtain⟨⟨c,ty,fr,h1,h2,h3,h4,h5,h6,h7⟩,h8⟩:=h;exact⟨⟨c,ty,fr,hb.trans h1,h2,h3.trans hs.symm,h4,h5,fun i j x t v a1 a2 a3=>⟨(h6 i j x t v a1 a2 a3).1.mono e.imm,(h6 i j x t v a1 a2 a3).2⟩,
   fun hf i j x t a1 a2=>(hi _).trans (h7 hf i j x t a1 a2)⟩,fun hf i=>(hi i).trans (h8 hf i)⟩
 |marr s ver es =>
  obtain⟨⟨c,ty,fr,h1,h2,h3,h4,h5,h6⟩,h8⟩:=h;exact⟨⟨c,ty,fr,hb.trans h1,h2,h3.trans hs.symm,h4,h5,fun i j x t v a1 a2 a3=>(h6 i j x t v a1 a2 a3).mono e⟩,fun i=>(hi i).trans (h8 i)⟩
 |siter s pos=>exact⟨hb.trans h.1,fun i=>(hi i).trans (h.2 i)⟩
 |map es =>
  obtain⟨⟨xs,c,h1,h2,h3⟩,h4⟩:=h;exact⟨⟨xs,c,hb.trans h1,h2,fun i x y a1 a2=>(h3 i x y a1 a2).mono e⟩,fun i=>(hi i).trans (h4 i)⟩
 |loop c T st j =>
  obtain⟨⟨r,h1,h2⟩,h4⟩:=h;exact⟨⟨r,hb.trans h1,h2.mono e⟩,fun i=>(hi i).trans (h4 i)⟩
 |dead=>exact h.elim
def yS(g:Look)(id:Nat)(o:Obj)(i:Nat):upd g [(id,o)] i=if i=id then some o else g i:=by
 simp only[upd];cases h:Nat.beq i id with
 |true=>have:=Nat.eq_of_beq_eq_true h;simp [this]
 |false=>have:=Nat.ne_of_beq_eq_false h;simp [this]
def G.new(γ:G)(nid b n:Nat):G :=
 {β:=fun i=>if i=nid then some b else γ.β i,sz:=fun i=>if i=nid then n else γ.sz i,imm:=γ.imm }
def zAn{g:Look}{id:Nat}{o:Obj}{i:Nat}(h:i≠id):cur (upd g [(id,o)]) i=cur g i:=by
 unfold cur;rw[yS,if_neg h]
def zBT{g:Look}{id:Nat}{o:Obj}{i:Nat}(h:i≠id):dims (upd g [(id,o)]) i=dims g i:=by
 unfold dims;rw[yS,if_neg h]
def zJr{g:Look}{id:Nat}(h:g id=none):cur g id=none:=by unfold cur;rw[h]
theorem Ext.new{γ:G}{g:Look}{nid:Nat}(b n:Nat)(o:Obj)(hn:γ.β nid=none)(hg:g nid=none):Ext γ g (γ.new nid b n) (upd g [(nid,o)]):=by
 refine⟨.refl _,fun id c hb hc=>?_,fun id c hc=>?_⟩
 ·have hne:id≠nid:=fun e=>by rw[e,hn] at hb;cases hb
  exact⟨by simp [G.new,hne,hb],by rw[zAn hne];exact hc⟩
 have hne:id≠nid:=fun e=>by rw[e,zJr hg] at hc;cases hc
 exact⟨c,by rw[zAn hne];exact hc,Nat.le_refl _,fun _=>⟨by simp [G.new,hne],by simp [G.new,hne],zBT hne⟩⟩
def zC9 {γ:G} {g:Look} {w w':World} {nid n:Nat} {o:Obj} {X:Go.Obj} (hn:γ.β nid=none) (hg:g nid=none) (h:HR γ g w)
  (hw:w'.heap=w.heap.push X) (ho:OR (γ.new nid w.heap.size n) (upd g [(nid,o)]) w' nid w.heap.size o) (hso:w'.os=w.os∧w'.output=w.output:=by exact⟨rfl,rfl⟩) :
  Ext γ g (γ.new nid w.heap.size n) (upd g [(nid,o)])∧HR (γ.new nid w.heap.size n) (upd g [(nid,o)]) w'∧Fr γ w (γ.new nid w.heap.size n) w':=by
 have e:=Ext.new w.heap.size n o hn hg;have hold:∀b,b<w.heap.size→w'.heap[b]?=w.heap[b]?:=fun b hb=>by
  rw[hw,Array.getElem?_push];simp [Nat.ne_of_lt hb]
 refine⟨e,⟨fun id b hb=>?_,fun id id' b hb hb'=>?_,fun b i v hv=>?_⟩,⟨by rw[hw];simp,fun b hb _=>hold b hb,fun id b hb=>?_,fun b i v hv=>.inl hv,hso⟩⟩
 ·by_cases hid:id=nid
  ·subst hid;simp [G.new] at hb;subst hb;exact⟨o,by rw[yS,if_pos rfl],ho⟩
  simp [G.new,hid] at hb;obtain⟨x,hx,hor⟩:=h.obj id b hb;refine⟨x,by rw[yS,if_neg hid];exact hx,hor.mono e (hold b hor.lt) (by simp [G.new,hid]) (fun _=>rfl)⟩
 ·by_cases hid:id=nid<;>by_cases hid':id'=nid
  ·rw[hid,hid']
  ·simp [G.new,hid] at hb;simp [G.new,hid'] at hb';subst hb;have:=h.lt hb';omega
  ·simp [G.new,hid'] at hb';simp [G.new,hid] at hb;subst hb';have:=h.lt hb;omega
  simp [G.new,hid] at hb;simp [G.new,hid'] at hb';exact h.inj id id' b hb hb'
 ·have hc:=h.imm b i v hv;rw[zAd (hold b (zEU hc))];exact hc
 by_cases hid:id=nid
 ·simp [G.new,hid] at hb;exact .inl (by omega)
 simp [G.new,hid] at hb;exact .inr ⟨id,hb⟩
def zAe{γ:G}{g:Look}{w:World}(h:HR γ g w)(o:Nat):γ.imm w.heap.size o=none:=by
 cases hi:γ.imm w.heap.size o with
 |none=>rfl
 |some v=>have:=zEU (h.imm _ _ _ hi);omega
def zBh(n:Nat):zDO (0,0) n:=fun i _ h=>by simp at h
def zP4 {γ:G} {g:Look} {w w':World} {nid:Nat} {cs:List AV} {c:Array Value} {ty:TypeId} (hn:γ.β nid=none) (hg:g nid=none) (h:HR γ g w)
  (hw:w'.heap=w.heap.push (.cells c ty)) (hc:VRs γ g cs c.toList) (hso:w'.os=w.os∧w'.output=w.output:=by exact⟨rfl,rfl⟩) :
  Good γ g w [(nid,.box cs)] (.box nid 0) (.ok (.pointer (some ⟨w.heap.size,0,none⟩)) w'):=by
 have e:=Ext.new w.heap.size 0 (.box cs) hn hg;obtain⟨h1,h2,h3⟩:=zC9 (n:=0) (w':=w') (o:=.box cs) hn hg h hw
  ⟨⟨c,ty,(0,0),by rw[hw,Array.getElem?_push];simp,zBh _,hc.mono e⟩,fun o=>zAe h o⟩ hso
 refine⟨_,w',_,rfl,h1,h2,.box nid 0 _ (by simp [G.new]) ?_,h3⟩;unfold cur;rw[yS,if_pos rfl]
def zMt {γ:G} {g:Look} {w w':World} {nid s cap:Nat} {es:List (List Tree)} {c:Array Value} {ty:TypeId} {fr:Nat×Nat} (hn:γ.β nid=none) (hg:g nid=none)
  (h:HR γ g w) (hw:w'.heap=w.heap.push (.cells c ty fr)) (hfr:zDO fr c.size) (hl:∀e ∈ es,e.length=s) (hle:es.length≤cap) (hsz:c.size=cap * s)
  (hc:∀(i j:Nat) e t v,es[i]?=some e→e[j]?=some t→c[i * s+j]?=some v→TR γ.imm t v∧v.oneCell'=true) (hso:w'.os=w.os∧w'.output=w.output:=by exact⟨rfl,rfl⟩) :
  Good γ g w [(nid,.arr s 0 false es)] (.hs nid 0) (.ok (.slice (some ⟨w.heap.size,0,none⟩) es.length cap) w'):=by
 obtain⟨h1,h2,h3⟩:=zC9 (n:=c.size) (w':=w') (o:=.arr s 0 false es) hn hg h hw
  ⟨⟨c,ty,fr,by rw[hw,Array.getElem?_push];simp,hfr,by simp [G.new],by rw[hsz];exact Nat.mul_le_mul_right s hle,hl,hc,fun hf=>by cases hf⟩,fun _ o=>zAe h o⟩ hso
 have hcur:cur (upd g [(nid,.arr s 0 false es)]) nid=some 0:=by unfold cur;rw[yS,if_pos rfl]
 refine⟨_,w',_,rfl,h1,h2,.hs nid 0 _ _ _ ⟨0,hcur,Nat.le_refl _⟩ fun _=>⟨w.heap.size,s,by simp [G.new],?_,rfl,hle,by simp [G.new];omega⟩,h3⟩;unfold dims;rw[yS,if_pos rfl]
def zWg {γ:G} {g:Look} {w w':World} {nid s cap:Nat} {es:List (List AV)} {c:Array Value} {ty:TypeId} (hn:γ.β nid=none) (hg:g nid=none)
  (h:HR γ g w) (hw:w'.heap=w.heap.push (.cells c ty)) (hl:∀e ∈ es,e.length=s) (hle:es.length≤cap) (hsz:c.size=cap * s)
  (hc:∀(i j:Nat) e t v,es[i]?=some e→e[j]?=some t→c[i * s+j]?=some v→VR γ g t v) (hso:w'.os=w.os∧w'.output=w.output:=by exact⟨rfl,rfl⟩) :
  Good γ g w [(nid,.marr s 0 es)] (.hs nid 0) (.ok (.slice (some ⟨w.heap.size,0,none⟩) es.length cap) w'):=by
 have e:=Ext.new w.heap.size c.size (.marr s 0 es) hn hg;obtain⟨h1,h2,h3⟩:=zC9 (n:=c.size) (w':=w') (o:=.marr s 0 es) hn hg h hw
  ⟨⟨c,ty,(0,0),by rw[hw,Array.getElem?_push];simp,zBh _,by simp [G.new],by rw[hsz];exact Nat.mul_le_mul_right s hle,hl,
   fun i j x t v a1 a2 a3=>(hc i j x t v a1 a2 a3).mono e⟩,fun o=>zAe h o⟩ hso
 have hcur:cur (upd g [(nid,.marr s 0 es)]) nid=some 0:=by unfold cur;rw[yS,if_pos rfl]
 refine⟨_,w',_,rfl,h1,h2,.hs nid 0 _ _ _ ⟨0,hcur,Nat.le_refl _⟩ fun _=>⟨w.heap.size,s,by simp [G.new],?_,rfl,hle,by simp [G.new];omega⟩,h3⟩;unfold dims;rw[yS,if_pos rfl]
theorem TR.bytes(I:Imm)(s:ByteArray):TR I (.str (s.data.toList.map UInt8.toNat)) (.string s):=by
 have h:=TR.str (I:=I) (s.data.toList.map UInt8.toNat) (fun b hb=>by
  obtain⟨c,_,rfl⟩:=List.mem_map.1 hb;exact c.toNat_lt)
 have e:((s.data.toList.map UInt8.toNat).map UInt8.ofNat).toArray=s.data:=by
  rw[List.map_map];have:(UInt8.ofNat ∘ UInt8.toNat)=id:=by funext c;simp
  rw[this];simp
 rw[e] at h;exact h
def zQe{I:Imm}{v:Value}{x:Tree}(h:lit1 v=some x):TR I x v:=by
 unfold lit1 at h;split at h<;>first|(cases h;done)|skip
 ·cases h;exact .bool _
 ·cases h;exact .int _ _
 ·cases h;exact .bytes I _
 ·cases h;exact .nilptr
 ·cases h;exact .sl true true [] none 0 0 (fun _ _=>undef) (fun _=>⟨rfl,rfl,rfl⟩) (fun hh=>by cases hh) (fun _ he=>by simp at he) (fun _ _ _ _ he=>by simp at he) (Nat.le_refl _) (fun _=>rfl) (fun _ _ _ _ he=>by simp at he)
 ·cases h;exact .nilmap
 ·split at h
  ·rename_i a b hab;cases h;simp at hab;obtain⟨rfl,rfl⟩:=hab;exact .fn _
  cases h
 ·cases h;exact .nilfn
 cases h;exact .nilifc
def zQZ{I:Imm}:∀ {vs:List Value} {xs:List Tree},lits vs=some xs→xs.length=vs.length∧∀(i:Nat) c v,xs[i]?=some c→vs[i]?=some v→TR I c v
 |[],xs,h=>by simp [lits] at h;subst h;exact⟨rfl,fun _ _ _ hc=>by simp at hc⟩
 |v::vs,xs,h=>by
  simp only[lits] at h;split at h
  ·cases h
  rename_i x hx;split at h
  ·cases h
  rename_i xs' hxs;cases h;obtain⟨h1,h2⟩:=zQZ (I:=I) hxs;refine⟨by simp [h1],fun i c u hc hu=>?_⟩;cases i with
  |zero=>simp at hc hu;subst hc;subst hu;exact zQe hx
  |succ i=>exact h2 i c u (by simpa using hc) (by simpa using hu)
def zN8{γ:G}{g:Look}(v:Value):VR γ g (lit v) v:=by
 unfold lit;split
 ·rename_i cs;split
  ·rename_i ts hts;obtain⟨h1,h2⟩:=zQZ (I:=γ.imm) hts;exact .t _ _ (by have:=TR.agg ts cs.toList h1 h2;simpa using this)
  exact .unk _
 rename_i v' hv;split
 ·rename_i x hx;exact .t _ _ (zQe hx)
 exact .unk _
def ER(γ:G)(g:Look)(T:Env)(a:Act):Prop:=∀t,VR γ g (get T t) (a.tmps.getD t undef)
def yC{γ:G}{g:Look}{T:Env}{a:Act}(h:ER γ g T a)(x:Operand):VR γ g (zM T x) (a.eval x):=by
 cases x with
 |tmp t=>exact h t
 |const v=>exact zN8 v
 |global gl=>exact .unk _
 |func f=>exact .t _ _ (.fn f)
def zFw {P:Program} {γ:G} {g:Look} {t:TypeId} {cs:List AV} (h:zeroCells P t=some cs) :
  ∃i z,P.info? t=some i∧i.zero=some z∧VRs γ g cs z.cells.toList:=by
 unfold zeroCells at h;split at h
 ·rename_i i hi;split at h
  ·rename_i z hz;have hv:=zN8 (γ:=γ) (g:=g) z;refine⟨i,z,zDU hi,hz,?_⟩;split at h
   ·rename_i ts hl;rw[hl] at hv;cases h;exact zCf (x:=.t (.agg ts)) rfl hv
   ·rename_i x hx hl;rw[hl] at hv;cases h;refine zCf (x:=.t x) ?_ hv;unfold cellsOf;split<;>first|rfl|(rename_i heq;cases heq;done)|(rename_i heq;cases heq;exact absurd rfl (hx _))
   cases h
  cases h
 cases h
def zFD{P:Program}{w:World}{t:TypeId}{i:TypeInfo}{z:Value}(hi:P.info? t=some i)(hz:i.zero=some z):(zeroValue t).run P w=.ok z w:=by
 simp [zeroValue,typeInfo,hi,hz]
def zSH {P:Program} {γ:G} {g:Look} {w:World} {nid:Nat} {t:TypeId} {v:AV} {p:Patch} (h:HR γ g w) (hn:γ.β nid=none) (hg:g nid=none)
  (hx:uY P nid t=some (.val v,p)):Good γ g w p v ((Instr.alloc t true (.tuple #[])).run P w):=by
 unfold uY at hx;split at hx
 ·rename_i cs hcs;cases hx;obtain⟨i,z,hi,hz,hv⟩:=zFw (γ:=γ) (g:=g) hcs;simp only[Instr.alloc,Sem.run_bind,zFD hi hz,Result.andThen_ok,newVar,newRow,run_newObj,Sem.run_pure];exact zP4 (ty:=t) hn hg h rfl hv
 cases hx
def zYj {P:Program} {γ:G} {g:Look} {w:World} {nid:Nat} {t:TypeId} {x v:AV} {u:Value} {p:Patch} (h:HR γ g w) (hn:γ.β nid=none) (hg:g nid=none)
  (hv:VR γ g x u) (hx:xBox nid x=some (.val v,p)):Good γ g w p v ((Instr.box t u).run P w):=by
 unfold xBox at hx;split at hx
 ·rename_i cs hcs;cases hx;simp only[Instr.box,newVar,newRow,Sem.run_bind,run_newObj,Result.andThen_ok,Sem.run_pure];exact zP4 (ty:=t) hn hg h rfl (zCf hcs hv)
 cases hx
def zCd{w:World}{b o:Nat}{c:Array Value}{ty:TypeId}{fr:Nat×Nat}(h:w.heap[b]?=some (.cells c ty fr)):w.cell? ⟨b,o,none⟩=c[o]?:=by
 unfold World.cell?;simp [h]
def zDy {w:World} {b o:Nat} {c:Array Value} {ty:TypeId} {fr:Nat×Nat} (h:w.heap[b]?=some (.cells c ty fr)) (hu:zDO fr c.size) (ho:o<c.size) :
  w.frozen? ⟨b,o,none⟩=false:=by
 unfold World.frozen?;simp only[h];have:=hu o ho;obtain⟨lo,hi⟩:=fr;simp at this ⊢;exact this
def xY{i n s k:Nat}(h:i<n)(hk:k≤s):i * s+k≤n * s:=by
 have:(i+1) * s≤n * s:=Nat.mul_le_mul_right s h;rw[Nat.add_mul] at this;omega
def zR{α:Type}{l:List α}{i:Nat}{x:α}(h:l[i]?=some x):i<l.length:=by
 rcases Nat.lt_or_ge i l.length with h'|h'
 ·exact h'
 rw[List.getElem?_eq_none h'] at h;cases h
def zDs {γ:G} {g:Look} {w:World} {n:Nat} {a:AV} {u:Value} {cs:List AV} (h:HR γ g w) (hx:loadCells g n a=some cs) (hv:VR γ g a u) :
  ∃b o vs,u=.pointer (some ⟨b,o,none⟩)∧vs.length=n∧VRs γ g cs vs∧∀(j:Nat) v,vs[j]?=some v→w.cell? ⟨b,o+j,none⟩=some v:=by
 unfold loadCells at hx;split at hx
 ·rename_i id off;split at hx
  ·rename_i cells hg;cases hv with
   |box _ _ b hb hc =>
    obtain⟨o,ho,hor⟩:=h.obj id b hb;rw[hg] at ho;cases ho;obtain⟨⟨c,ty,fr,h1,h2,h3⟩,_⟩:=hor;have hl:=zAv hx;have hlen:=h3.1;simp at hlen;refine⟨b,off,(c.toList.drop off).take n,rfl,by simp;omega,⟨by rw[vL hx];simp;omega,fun i x v hxi hvi=>?_⟩,fun j v hj=>?_⟩
    ·have hi:i<n:=by have:=zR hxi;rw[vL hx] at this;exact this
     rw[zDY hx hi] at hxi;rw[List.getElem?_take_of_lt hi,List.getElem?_drop] at hvi;exact h3.2 _ _ _ hxi hvi
    have hi:j<n:=by have:=zR hj;simp at this;omega
    rw[List.getElem?_take_of_lt hi,List.getElem?_drop] at hj;rw[zCd h1];simpa using hj
  cases hx
 ·rename_i id ver i off;split at hx
  ·rename_i s ver' frz es hg;split at hx
   ·rename_i hver;split at hx
    ·rename_i e he;split at hx
     ·rename_i ts hts;cases hx;cases hv with
      |el _ _ _ _ ad ho hh =>
       have hcur:cur g id=some ver:=by unfold cur;rw[hg];simp [hver]
       obtain⟨b,s',n',hb,hd,rfl⟩:=hh hcur;have hds:s=s':=by unfold dims at hd;rw[hg] at hd;simp at hd;exact hd.1
       subst hds;obtain⟨o,ho',hor⟩:=h.obj id b hb;rw[hg] at ho';cases ho';obtain⟨⟨c,ty,fr,h1,h2,h3,h4,h5,h6,h7⟩,_⟩:=hor;rw[yP] at he;have hil:=zR he;have hel:=h5 e (List.mem_of_getElem? he);have hl:=zAv hts;have hle:=xY hil (k:=off+n) (s:=s) (by omega);refine⟨b,i * s+off,(c.toList.drop (i * s+off)).take n,rfl,by simp;omega,⟨by rw[List.length_map,vL hts];simp;omega,fun k x v hxi hvi=>?_⟩,fun j v hj=>?_⟩
       ·have hk:k<n:=by have:=zR hxi;rw[List.length_map,vL hts] at this;exact this
        rw[List.getElem?_map,zDY hts hk] at hxi;rw[List.getElem?_take_of_lt hk,List.getElem?_drop] at hvi;cases hc:e[off+k]? with
        |none=>rw[hc] at hxi;cases hxi
        |some t =>
         rw[hc] at hxi;cases hxi;exact .t _ _ (h6 i (off+k) e t v he hc (by rw[← Nat.add_assoc];simpa using hvi)).1
       have hi:j<n:=by have:=zR hj;simp at this;omega
       rw[List.getElem?_take_of_lt hi,List.getElem?_drop] at hj;rw[zCd h1];simpa using hj
     cases hx
    cases hx
   cases hx
  ·rename_i s ver' es hg;split at hx
   ·rename_i hver;split at hx
    ·rename_i e he;cases hv with
     |el _ _ _ _ ad ho hh =>
      have hcur:cur g id=some ver:=by unfold cur;rw[hg];simp [hver]
      obtain⟨b,s',n',hb,hd,rfl⟩:=hh hcur;have hds:s=s':=by unfold dims at hd;rw[hg] at hd;simp at hd;exact hd.1
      subst hds;obtain⟨o,ho',hor⟩:=h.obj id b hb;rw[hg] at ho';cases ho';obtain⟨⟨c,ty,fr,h1,h2,h3,h4,h5,h6⟩,_⟩:=hor;rw[yP] at he;have hil:=zR he;have hel:=h5 e (List.mem_of_getElem? he);have hl:=zAv hx;have hle:=xY hil (k:=off+n) (s:=s) (by omega);refine⟨b,i * s+off,(c.toList.drop (i * s+off)).take n,rfl,by simp;omega,⟨by rw[vL hx];simp;omega,fun k x v hxi hvi=>?_⟩,fun j v hj=>?_⟩
      ·have hk:k<n:=by have:=zR hxi;rw[vL hx] at this;exact this
       rw[zDY hx hk] at hxi;rw[List.getElem?_take_of_lt hk,List.getElem?_drop] at hvi;exact h6 i (off+k) e x v he hxi (by rw[← Nat.add_assoc];simpa using hvi)
      have hi:j<n:=by have:=zR hj;simp at this;omega
      rw[List.getElem?_take_of_lt hi,List.getElem?_drop] at hj;rw[zCd h1];simpa using hj
    cases hx
   cases hx
  cases hx
 ·rename_i ts;split at hx
  ·rename_i ts' hts;cases hx;cases hv with
   |rp _ b o val h1 h2 =>
    have hl:=zAv hts;refine⟨b,o,(List.range n).map val,rfl,by simp,⟨by rw[List.length_map,vL hts];simp,fun k x v hxi hvi=>?_⟩,fun j v hj=>?_⟩
    ·have hk:k<n:=by have:=zR hxi;rw[List.length_map,vL hts] at this;exact this
     rw[List.getElem?_map,zDY hts hk] at hxi;simp [hk] at hvi;subst hvi;cases hc:ts[0+k]? with
     |none=>rw[hc] at hxi;cases hxi
     |some t=>rw[hc] at hxi;cases hxi;exact .t _ _ (h2 k t (by simpa using hc))
    have hk:j<n:=by have:=zR hj;simpa using this
    simp [hk] at hj;subst hj;obtain⟨t,ht⟩:∃t,ts[j]?=some t:=⟨ts[j]'(by omega),List.getElem?_eq_getElem (by omega)⟩;exact h.imm _ _ _ (h1 j t ht)
  cases hx
 cases hx
def zVM {P:Program} {γ:G} {g:Look} {w:World} {t:TypeId} {a v:AV} {u:Value} (h:HR γ g w) (hv:VR γ g a u) (hx:load P g t a=some v) :
  Good γ g w [] v ((Instr.loadAt t u).run P w):=by
 unfold load at hx;split at hx
 ·rename_i hagg;split at hx
  ·rename_i n hn;split at hx
   ·rename_i cs hcs;cases hx;obtain⟨b,o,vs,rfl,hl,hvs,hc⟩:=zDs h hcs hv;have hrun:=run_loadCells_list (P:=P) w ⟨b,o,none⟩ vs (fun j x hj=>by rw[vS];exact hc j x hj);rw[hl] at hrun;simp only[Instr.loadAt,Instr.sureAddr,loadVar,Sem.run_bind,Sem.run_pure,Result.andThen_ok,zDb hagg,if_true,vR hn,hrun];exact .pure h (.mkAgg hvs)
   cases hx
  cases hx
 ·rename_i hagg;split at hx
  ·rename_i v' hcs;cases hx;obtain⟨b,o,vs,rfl,hl,hvs,hc⟩:=zDs h hcs hv;obtain⟨v0,vs',rfl,h0,_⟩:=hvs.cases_cons;have hc0:=hc 0 v0 rfl;simp only[Nat.add_zero] at hc0;have hl0:(Go.load ⟨b,o,none⟩).run P w=.ok v0 w:=by rw[run_load];simp [hc0]
   simp only[Instr.loadAt,Instr.sureAddr,loadVar,Sem.run_bind,Sem.run_pure,Result.andThen_ok,zDb hagg,Bool.false_eq_true,if_false,hl0];exact .pure h h0
  cases hx
 cases hx
def zP6{p:Patch}{g:Look}{id:Nat}{o:Obj}(hall:∀o',(id,o') ∈ p→o'=o)(hin:g id=some o∨∃o',(id,o') ∈ p):upd g p id=some o:=by
 induction p generalizing g with
 |nil =>
      rcases hin with h|⟨o',h⟩
      ·exact h
      cases h
 |cons x p ih =>
  obtain⟨i,o''⟩:=x;simp only[upd];refine ih (fun o' h=>hall o' (List.mem_cons_of_mem _ h)) ?_
  by_cases hi:id=i
  ·subst hi;have:o''=o:=hall o'' (by simp);subst this
   left;simp
  have hb:Nat.beq id i=false:=by cases h:Nat.beq id i with
   |true=>exact absurd (Nat.eq_of_beq_eq_true h) hi
   |false=>rfl
  rcases hin with h|⟨o',h⟩
  ·left;simp [hb,h]
  right
  rcases List.mem_cons.1 h with h|h
  ·cases h;exact absurd rfl hi
  exact⟨o',h⟩
def kU(g:Look)(p:Patch):Prop:=∀id o,(id,o) ∈ p→∃s ver frz es,g id=some (.arr s ver frz es)∧o=.arr s ver true es
def uE(g:Look):∀ids,kU g (xB g ids)
 |[]=>fun _ _ h=>by cases h
 |i::ids=>fun id o h=>by
  simp only[xB] at h;split at h
  ·rename_i s ver frz es hg;rcases List.mem_cons.1 h with h|h
   ·cases h;exact⟨s,ver,frz,es,hg,rfl⟩
   exact uE g ids id o h
  exact uE g ids id o h
def zDM{g:Look}{id:Nat}{s ver:Nat}{frz:Bool}{es:List (List Tree)}(hg:g id=some (.arr s ver frz es)):∀ {ids:List Nat},id ∈ ids→(id,.arr s ver true es) ∈ xB g ids
 |i::ids,h=>by
  simp only[xB];rcases List.mem_cons.1 h with h|h
  ·subst h;rw[hg];simp
  have:=zDM hg h;split
  ·exact List.mem_cons_of_mem _ this
  exact this
theorem kU.upd_eq {g:Look} {p:Patch} (h:kU g p) {id:Nat} {s ver:Nat} {frz:Bool} {es:List (List Tree)} (hg:g id=some (.arr s ver frz es))
  (hin:∃o,(id,o) ∈ p):upd g p id=some (.arr s ver true es):=by
 refine zP6 (fun o' ho'=>?_) (.inr hin);obtain⟨s',ver',frz',es',h1,h2⟩:=h id o' ho';rw[hg] at h1;cases h1;exact h2
def G.freeze1(γ:G)(b n:Nat)(c:Array Value):G :=
 {γ with imm:=fun b' o=>match γ.imm b' o with
  |some v=>some v
  |none=>if b'=b∧o<n then c[o]? else none }
def zPL {γ:G} {g:Look} {w:World} (h:HR γ g w) {id s ver:Nat} {frz:Bool} {es:List (List Tree)} (hg:g id=some (.arr s ver frz es)) :
  ∃ γ',Ext γ g γ' (upd g [(id,.arr s ver true es)])∧HR γ' (upd g [(id,.arr s ver true es)]) w∧Fr γ w γ' w∧γ'.β=γ.β:=by
 have hcur:∀i,cur (upd g [(id,.arr s ver true es)]) i=cur g i:=fun i=>by
  by_cases hi:i=id
  ·subst hi;unfold cur;rw[yS,if_pos rfl,hg]
  exact zAn hi
 have hdims:∀i,dims (upd g [(id,.arr s ver true es)]) i=dims g i:=fun i=>by
  by_cases hi:i=id
  ·subst hi;unfold dims;rw[yS,if_pos rfl,hg]
  exact zBT hi
 cases hb:γ.β id with
 |none =>
  have e:Ext γ g γ (upd g [(id,.arr s ver true es)]):=⟨.refl _,fun i b hb hc=>⟨hb,by rw[hcur];exact hc⟩,fun i c hc=>⟨c,by rw[hcur];exact hc,Nat.le_refl _,fun _=>⟨rfl,rfl,hdims i⟩⟩⟩
  refine⟨γ,e,⟨fun i b hib=>?_,h.inj,h.imm⟩,.refl _ _,rfl⟩;obtain⟨o,ho,hor⟩:=h.obj i b hib;have hi:i≠id:=fun hh=>by rw[hh,hb] at hib;cases hib
  exact⟨o,by rw[yS,if_neg hi];exact ho,hor.mono e rfl rfl (fun _=>rfl)⟩
 |some b =>
  obtain⟨o,ho,hor⟩:=h.obj id b hb;rw[hg] at ho;cases ho;obtain⟨⟨c,ty,fr,h1,h2,h3,h4,h5,h6,h7⟩,h8⟩:=hor;have hle:qC γ.imm (γ.freeze1 b (es.length * s) c).imm:=fun b' o v hv=>by simp [G.freeze1,hv]
  have e:Ext γ g (γ.freeze1 b (es.length * s) c) (upd g [(id,.arr s ver true es)]):=⟨hle,fun i b hb hc=>⟨hb,by rw[hcur];exact hc⟩,
   fun i c' hc=>⟨c',by rw[hcur];exact hc,Nat.le_refl _,fun _=>⟨rfl,rfl,hdims i⟩⟩⟩
  have hcell:∀o,w.cell? ⟨b,o,none⟩=c[o]?:=fun o=>zCd h1
  refine⟨γ.freeze1 b (es.length * s) c,e,⟨fun i b' hib=>?_,h.inj,fun b' o v hv=>?_⟩,⟨Nat.le_refl _,fun _ _ _=>rfl,fun i b' hib=>.inr ⟨i,hib⟩,fun b' o v hv=>?_,rfl,rfl⟩,rfl⟩
  ·by_cases hi:i=id
   ·subst hi;have hbb:b'=b:=by have:γ.β i=some b':=hib;rw[hb] at this;cases this;rfl
    subst hbb;refine⟨.arr s ver true es,by rw[yS,if_pos rfl],⟨c,ty,fr,h1,h2,h3,h4,h5,fun i j x t v a1 a2 a3=>⟨(h6 i j x t v a1 a2 a3).1.mono hle,(h6 i j x t v a1 a2 a3).2⟩,fun _ i j x t a1 a2=>?_⟩,fun hf=>by cases hf⟩;have hil:=zR a1;have hjl:=zR a2;have hxl:=h5 x (List.mem_of_getElem? a1);have hb1:=xY hil (k:=j+1) (s:=s) (by omega);simp only[G.freeze1];cases hi:γ.imm b' (i * s+j) with
    |some v=>have:=h.imm _ _ _ hi;rw[hcell] at this;rw[this]
    |none=>simp;intro hh;omega
   obtain⟨o,ho,hor⟩:=h.obj i b' hib;have hbb:b'≠b:=fun hh=>hi (h.inj i id b (hh ▸ hib) hb)
   exact⟨o,by rw[yS,if_neg hi];exact ho,hor.mono e rfl rfl (fun o=>by simp only[G.freeze1];split<;>simp_all)⟩
  ·simp only[G.freeze1] at hv;split at hv
   ·rename_i v' hv';cases hv;exact h.imm _ _ _ hv'
   split at hv
   ·rename_i hh;obtain⟨rfl,_⟩:=hh;rw[hcell];exact hv
   cases hv
  simp only[G.freeze1] at hv;split at hv
  ·rename_i v' hv';cases hv;exact .inl hv'
  split at hv
  ·rename_i hh;obtain⟨rfl,_⟩:=hh;exact .inr (.inr ⟨id,hb⟩)
  cases hv
def zAs(g:Look):∀(p q:Patch),upd g (p++q)=upd (upd g p) q
 |[],q=>rfl
 |(i,o)::p,q=>by simp only[List.cons_append,upd];exact zAs _ p q
def zDx{w:World}:∀ {p:Patch} {γ:G} {g:Look},HR γ g w→kU g p→∃ γ',Ext γ g γ' (upd g p)∧HR γ' (upd g p) w∧Fr γ w γ' w∧γ'.β=γ.β
 |[],γ,g,h,_=>⟨γ,.refl _ _,h,.refl _ _,rfl⟩
 |(id,o)::p,γ,g,h,hp=>by
  obtain⟨s,ver,frz,es,hg,rfl⟩:=hp id o (by simp);obtain⟨γ₁,e1,h1,f1,b1⟩:=zPL h hg;have hp':kU (upd g [(id,.arr s ver true es)]) p:=fun i o' ho'=>by
   obtain⟨s',ver',frz',es',hg',rfl⟩:=hp i o' (List.mem_cons_of_mem _ ho');rw[yS]
   by_cases hi:i=id
   ·subst hi;rw[hg] at hg';cases hg';exact⟨_,_,true,_,by rw[if_pos rfl],rfl⟩
   exact⟨_,_,frz',_,by rw[if_neg hi];exact hg',rfl⟩
  obtain⟨γ₂,e2,h2,f2,b2⟩:=zDx h1 hp';have hu:upd g ((id,.arr s ver true es)::p)=upd (upd g [(id,.arr s ver true es)]) p:=zAs g [(id,_)] p;rw[hu];exact⟨γ₂,e1.trans e2,h2,f1.trans f2,b2.trans b1⟩
def zML {γ:G} {g:Look} {w:World} (h:HR γ g w) {id s ver b:Nat} {es es':List (List Tree)} (hg:g id=some (.arr s ver true es)) (hb:γ.β id=some b)
  {lo len cap:Nat} (hc:cut es lo len=some es') {a:Addr} (ha:len≠0→a=⟨b,lo * s,none⟩) (hcap:len≤cap):TR γ.imm (.sl false false es') (.slice (some a) len cap):=by
 obtain⟨o,ho,hor⟩:=h.obj id b hb;rw[hg] at ho;cases ho;obtain⟨⟨c,ty,fr,h1,h2,h3,h4,h5,h6,h7⟩,_⟩:=hor;have hlen:=vL hc;have hcs:=zAv hc;have hget:∀(i:Nat) e,es'[i]?=some e→es[lo+i]?=some e:=fun i e he=>by
  have hi:i<len:=by have:=zR he;omega
  rw[zDY hc hi] at he;exact he
 have hval:∀(i j:Nat) e t,es'[i]?=some e→e[j]?=some t→c[lo * s+i * s+j]?=some (c.getD (lo * s+i * s+j) undef):=fun i j e t he ht=>by
  have hil:=zR (hget i e he);have hel:=h5 e (List.mem_of_getElem? (hget i e he));have hjl:=zR ht;have:=xY hil (k:=j+1) (s:=s) (by omega);rw[Nat.add_mul] at this;have hlt:lo * s+i * s+j<c.size:=by omega
  simp [Array.getElem?_eq_getElem hlt]
 have key:=TR.sl (I:=γ.imm) false false es' (some a) cap s (fun i j=>c.getD (lo * s+i * s+j) undef) (fun hh=>by cases hh)
  (fun _=>⟨by simp,b,lo * s,fun hne=>by rw[ha (fun h0=>hne (List.eq_nil_of_length_eq_zero (by omega)))],fun i j e t he ht=>by
   have:=h7 rfl (lo+i) j e t (hget i e he) ht;rw[Nat.add_mul] at this;rw[this];exact hval i j e t he ht⟩)
  (fun e he=>by
   obtain⟨i,hi⟩:=List.getElem?_of_mem he;exact h5 e (List.mem_of_getElem? (hget i e hi)))
  (fun i j e t he ht=>(h6 (lo+i) j e t _ (hget i e he) ht (by rw[Nat.add_mul];exact hval i j e t he ht)).1)
  (by omega) (fun hh=>by cases hh) (fun i j e t he ht=>(h6 (lo+i) j e t _ (hget i e he) ht (by rw[Nat.add_mul];exact hval i j e t he ht)).2)
 rw[hlen] at key;exact key
def zJN{g:Look}{id ver:Nat}{es:List (List Tree)}(h:elems g (.hs id ver)=some es):∃s frz,g id=some (.arr s ver frz es):=by
 simp only[elems] at h;split at h
 ·rename_i s ver' frz es' hg;split at h
  ·rename_i hv;cases h;exact⟨s,frz,by rw[hg,hv]⟩
  cases h
 cases h
def zHi{g:Look}{id ver lo len:Nat}{es:List (List Tree)}(h:elems g (.hsub id ver lo len)=some es):∃s frz es0,g id=some (.arr s ver frz es0)∧cut es0 lo len=some es:=by
 simp only[elems] at h;split at h
 ·rename_i s ver' frz es' hg;split at h
  ·rename_i hv;exact⟨s,frz,es',by rw[hg,hv],h⟩
  cases h
 cases h
def kR{g:Look}{id s ver:Nat}{frz:Bool}{es:List (List Tree)}(h:g id=some (.arr s ver frz es)):cur g id=some ver:=by unfold cur;rw[h]
def vU{g:Look}{id s ver:Nat}{frz:Bool}{es:List (List Tree)}(h:g id=some (.arr s ver frz es)):dims g id=some (s,es.length):=by unfold dims;rw[h]
def zQ0{α:Type}(l:List α):cut l 0 l.length=some l:=by unfold cut;simp
def zP9 {γ:G} {g:Look} {w:World} (h:HR γ g w) {id s ver:Nat} {es:List (List Tree)} {u:Value} (hg:g id=some (.arr s ver true es))
  (hv:VR γ g (.hs id ver) u):VR γ g (.t (.sl false false es)) u:=by
 cases hv with
 |hs _ _ a n cap ho hh =>
  obtain⟨b,s',hb,hd,rfl,hle,_⟩:=hh (kR hg);rw[vU hg] at hd;cases hd;exact .t _ _ (zML h hg hb (zQ0 es) (fun _=>by simp) hle)
def zNy {γ:G} {g:Look} {w:World} (h:HR γ g w) {id s ver lo len:Nat} {es es':List (List Tree)} {u:Value} (hg:g id=some (.arr s ver true es))
  (hc:cut es lo len=some es') (hv:VR γ g (.hsub id ver lo len) u):VR γ g (.t (.sl false false es')) u:=by
 cases hv with
 |hsub _ _ _ _ a cap ho hh =>
  obtain⟨b,s',n,hb,hd,hle,hlo,ha⟩:=hh (kR hg);rw[vU hg] at hd;cases hd;exact .t _ _ (zML h hg hb hc ha hle)
def zGF {γ:G} {g g':Look} {w:World} (h:HR γ g' w) {x:AV} {u:Value} (hp:∀id ∈ yO g x,∀s ver frz es,g id=some (.arr s ver frz es)→g' id=some (.arr s ver true es))
  (hv:VR γ g' x u):VR γ g' (view g x) u:=by
 unfold view;split
 ·rename_i id ver;split
  ·rename_i es he;obtain⟨s,frz,hg⟩:=zJN he;have:id ∈ yO g (.hs id ver):=by simp only[yO,he];simp
   exact zP9 h (hp id this _ _ _ _ hg) hv
  exact hv
 ·rename_i id ver lo len;split
  ·rename_i es he;obtain⟨s,frz,es0,hg,hc⟩:=zHi he;have:id ∈ yO g (.hsub id ver lo len):=by simp only[yO,he];simp
   exact zNy h (hp id this _ _ _ _ hg) hc hv
  exact hv
 ·rename_i cs;cases hv with
  |agg _ vs hl hh =>
   refine .mkAgg ⟨by simpa using hl,fun i c v hc hvi=>?_⟩;rw[List.getElem?_map] at hc;cases hci:cs[i]? with
   |none=>rw[hci] at hc;cases hc
   |some c0 =>
    rw[hci] at hc;cases hc;have hv0:=hh i c0 v hci hvi;have hmem:c0 ∈ cs:=List.mem_of_getElem? hci;have hsub:∀id,id ∈ (match c0 with
      |.hs id ver=>(match elems g (.hs id ver) with|some _=>[id]|none=>[])
      |.hsub id ver lo len=>(match elems g (.hsub id ver lo len) with|some _=>[id]|none=>[])
      |_=>[])→id ∈ yO g (.agg cs):=fun id hid=>by
     simp only[yO];clear hh hl hci hp hv0 hvi
     induction cs with
     |nil=>cases hmem
     |cons d ds ih =>
      simp only[catMap,List.mem_append];rcases List.mem_cons.1 hmem with hm|hm
      ·subst hm;exact .inl hid
      exact .inr (ih hm)
    dsimp only;split
    ·rename_i id ver;split
     ·rename_i es he;obtain⟨s,frz,hg⟩:=zJN he;exact zP9 h (hp id (hsub id (by simp [he])) _ _ _ _ hg) hv0
     exact hv0
    ·rename_i id ver lo len;split
     ·rename_i es he;obtain⟨s,frz,es0,hg,hc⟩:=zHi he;exact zNy h (hp id (hsub id (by simp [he])) _ _ _ _ hg) hc hv0
     exact hv0
    exact hv0
 exact hv
def zRq {γ:G} {g:Look} {w:World} {x:AV} {u:Value} (h:HR γ g w) (hv:VR γ g x u) :
  ∃ γ',Ext γ g γ' (upd g (qB g x).2)∧HR γ' (upd g (qB g x).2) w∧Fr γ w γ' w∧γ'.β=γ.β∧VR γ' (upd g (qB g x).2) (qB g x).1 u:=by
 obtain⟨γ',e,h',f,hb⟩:=zDx h (uE g (yO g x));refine⟨γ',e,h',f,hb,zGF h' (fun id hid s ver frz es hg=>?_) (hv.mono e)⟩;exact(uE g (yO g x)).upd_eq hg ⟨_,zDM hg hid⟩
def zBb(b:Nat)(ty:TypeId)(fr:Nat×Nat):∀(vs:List Value) (o:Nat) (w:World) (c:Array Value),w.heap[b]?=some (.cells c ty fr)→o+vs.length≤c.size →
  ∃c',(w.setCells b o vs).heap[b]?=some (.cells c' ty fr)∧c'.size=c.size∧(∀i,c'[i]?=if o≤i∧i<o+vs.length then vs[i - o]? else c[i]?) ∧
   (∀b',b'≠b→(w.setCells b o vs).heap[b']?=w.heap[b']?)∧(w.setCells b o vs).heap.size=w.heap.size
 |[],o,w,c,h,_=>⟨c,h,rfl,fun i=>by rw[if_neg (by simp)],fun _ _=>rfl,rfl⟩
 |v::vs,o,w,c,h,hl=>by
  simp at hl;have hb:b<w.heap.size:=by
   rcases Nat.lt_or_ge b w.heap.size with h'|h'
   ·exact h'
   rw[Array.getElem?_eq_none h'] at h;cases h
  have h1:(w.setCell ⟨b,o,none⟩ v).heap[b]?=some (.cells (c.setIfInBounds o v) ty fr):=by
   simp only[World.setCell,Array.getElem?_modify,h];simp
  obtain⟨c',h2,h3,h4,h5,h6⟩:=zBb b ty fr vs (o+1) (w.setCell ⟨b,o,none⟩ v) (c.setIfInBounds o v) h1 (by simp;omega);refine⟨c',h2,by simpa using h3,fun i=>?_,fun b' hb'=>?_,by rw[World.setCells,h6,World.size_setCell]⟩
  ·rw[h4 i]
   by_cases hi:i=o
   ·subst hi;rw[if_neg (by omega),if_pos (by simp)];simp [Array.getElem?_setIfInBounds];omega
   by_cases hio:o+1≤i∧i<o+1+vs.length
   ·rw[if_pos hio,if_pos (by simp;omega)];have:i - o=i - (o+1)+1:=by omega
    rw[this];simp
   rw[if_neg hio,if_neg (by simp;omega)];simp [Array.getElem?_setIfInBounds];omega
  rw[World.setCells,h5 b' hb'];simp only[World.setCell,Array.getElem?_modify];rw[if_neg (fun e=>hb' e.symm)]
def zGX {α:Type} (l new:List α) (lo:Nat) (h:lo+new.length≤l.length) (i:Nat) :
  (splice l lo new)[i]?=if lo≤i∧i<lo+new.length then new[i - lo]? else l[i]?:=by
 unfold splice
 by_cases h1:i<lo
 ·rw[if_neg (by omega),List.getElem?_append_left (by simp;omega),List.getElem?_append_left (by simp;omega),List.getElem?_take_of_lt h1]
 by_cases h2:i<lo+new.length
 ·rw[if_pos ⟨by omega,h2⟩,List.getElem?_append_left (by simp;omega),List.getElem?_append_right (by simp;omega)]
  congr 1;simp;omega
 rw[if_neg (by omega),List.getElem?_append_right (by simp;omega),List.getElem?_drop]
 congr 1;simp;omega
def zBd{α:Type}(l new:List α)(lo:Nat)(h:lo+new.length≤l.length):(splice l lo new).length=l.length:=by
 unfold splice;simp;omega
def zEO(b:Nat):∀(vs:List Value) (o:Nat) (w:World),(w.setCells b o vs).os=w.os∧(w.setCells b o vs).output=w.output
 |[],_,_=>⟨rfl,rfl⟩
 |v::vs,o,w=>by
  have h:=zEO b vs (o+1) (w.setCell ⟨b,o,none⟩ v);rw[World.setCells];exact⟨h.1,h.2⟩
def zFi {γ:G} {g:Look} {w w':World} {id b:Nat} {o':Obj} (h:HR γ g w) (hb:γ.β id=some b) (himm:∀i,γ.imm b i=none)
  (hcur:cur (upd g [(id,o')]) id=cur g id) (hdims:dims (upd g [(id,o')]) id=dims g id) (hw:∀b',b'≠b→w'.heap[b']?=w.heap[b']?) (hsz:w'.heap.size=w.heap.size)
  (ho:OR γ (upd g [(id,o')]) w' id b o') (hso:w'.os=w.os∧w'.output=w.output:=by first|exact⟨rfl,rfl⟩|exact zEO _ _ _ _):Ext γ g γ (upd g [(id,o')])∧HR γ (upd g [(id,o')]) w'∧Fr γ w γ w':=by
 have hc:∀i,cur (upd g [(id,o')]) i=cur g i:=fun i=>by
  by_cases hi:i=id
  ·subst hi;exact hcur
  exact zAn hi
 have hd:∀i,dims (upd g [(id,o')]) i=dims g i:=fun i=>by
  by_cases hi:i=id
  ·subst hi;exact hdims
  exact zBT hi
 have e:Ext γ g γ (upd g [(id,o')]):=⟨.refl _,fun i b hb hc'=>⟨hb,by rw[hc];exact hc'⟩,fun i c hc'=>⟨c,by rw[hc];exact hc',Nat.le_refl _,fun _=>⟨rfl,rfl,hd i⟩⟩⟩
 refine⟨e,⟨fun i b' hib=>?_,h.inj,fun b' o v hv=>?_⟩,⟨by omega,fun b' _ hn=>hw b' (fun hh=>hn id (by rw[hh];exact hb)),fun i b' hib=>.inr ⟨i,hib⟩,fun _ _ _ hv=>.inl hv,hso⟩⟩
 ·by_cases hi:i=id
  ·subst hi;rw[hb] at hib;cases hib;exact⟨o',by rw[yS,if_pos rfl],ho⟩
  obtain⟨x,hx,hor⟩:=h.obj i b' hib;have hbb:b'≠b:=fun hh=>hi (h.inj i id b (hh ▸ hib) hb)
  exact⟨x,by rw[yS,if_neg hi];exact hx,hor.mono e (hw b' hbb) rfl (fun _=>rfl)⟩
 have hbb:b'≠b:=fun hh=>by rw[hh,himm] at hv;cases hv
 rw[zAd (hw b' hbb)];exact h.imm b' o v hv
def zLi(γ:G)(g:Look)(w:World)(p:Patch)(r:Result Unit):Prop :=
 ∃w' γ',r=.ok () w'∧Ext γ g γ' (upd g p)∧HR γ' (upd g p) w'∧Fr γ w γ' w'
def zGT{γ:G}{g:Look}{cs:List AV}{vs:List Value}(h:VRs γ g cs vs)(hc:cs.all wO=true):∀v ∈ vs,v.oneCell'=true:=by
 intro v hv;obtain⟨i,hi⟩:=List.getElem?_of_mem hv;have hil:=zR hi;obtain⟨x,hx⟩:∃x,cs[i]?=some x:=⟨cs[i]'(by rw[h.1];exact hil),List.getElem?_eq_getElem _⟩;have hr:=h.2 i x v hx hi;have hx':wO x=true:=List.all_eq_true.1 hc x (List.mem_of_getElem? hx);cases hr with
 |t x v ht=>cases ht<;>first|rfl|(simp [wO] at hx')
 |_=>first|rfl|(simp [wO] at hx')
def zF8{w:World}{b o:Nat}{c:Array Value}{ty:TypeId}{fr:Nat×Nat}(h:w.heap[b]?=some (.cells c ty fr))(ho:o<c.size):(w.cell? ⟨b,o,none⟩).isSome=true:=by
 rw[zCd h];simp [ho]
theorem VRs.splice {γ:G} {g:Look} {xs ys:List AV} {c c':Array Value} {vs:List Value} {o:Nat} (h:VRs γ g xs c.toList) (h':VRs γ g ys vs) (hl:o+ys.length≤xs.length)
  (hs:c'.size=c.size) (hc:∀i,c'[i]?=if o≤i∧i<o+vs.length then vs[i - o]? else c[i]?):VRs γ g (splice xs o ys) c'.toList:=by
 refine⟨by rw[zBd _ _ _ hl];have:=h.1;simp at this ⊢;omega,fun i x v hx hv=>?_⟩;rw[zGX _ _ _ hl] at hx;rw[Array.getElem?_toList,hc i,← h'.1] at hv;split at hx
 ·rename_i hi;rw[if_pos hi] at hv;exact h'.2 _ _ _ hx hv
 rename_i hi;rw[if_neg hi] at hv;exact h.2 _ _ _ hx (by simpa using hv)
def zPE {P:Program} {γ:G} {g:Look} {w:World} {a:AV} {u:Value} {cs:List AV} {vs:List Value} {p:Patch} (h:HR γ g w) (ha:VR γ g a u) (hv:VRs γ g cs vs)
  (hc1:cs.all wO=true) (hx:storeAt g a cs=some p):∃b o,u=.pointer (some ⟨b,o,none⟩)∧zLi γ g w p ((storeCells ⟨b,o,none⟩ vs).run P w):=by
 have h1c:=zGT hv hc1;unfold storeAt at hx;split at hx
 ·rename_i id off;split at hx
  ·rename_i old hg;split at hx
   ·rename_i hle;cases hx;cases ha with
    |box _ _ b hb hcn =>
     obtain⟨o,ho,hor⟩:=h.obj id b hb;rw[hg] at ho;cases ho;obtain⟨⟨c,ty,fr,k1,k2,k3⟩,k4⟩:=hor;have hcl:=k3.1;simp at hcl;have hvl:=hv.1;refine⟨b,off,rfl,?_⟩;have hrun:=run_storeCells_cells (P:=P) b off vs 0 w (fun j hj=>zF8 k1 (by omega)) (fun j hj=>zDy k1 k2 (by omega)) h1c;obtain⟨c',s1,s2,s3,s4,s5⟩:=zBb b ty fr vs off w c k1 (by omega);simp only[Nat.add_zero] at hrun;have hcur:cur (upd g [(id,.box (splice old off cs))]) id=cur g id:=by unfold cur;rw[yS,if_pos rfl,hg]
     have hdim:dims (upd g [(id,.box (splice old off cs))]) id=dims g id:=by unfold dims;rw[yS,if_pos rfl,hg]
     have e0:Ext γ g γ (upd g [(id,.box (splice old off cs))]):=by
      refine⟨.refl _,fun i b hb hc'=>⟨hb,?_⟩,fun i c hc'=>⟨c,?_,Nat.le_refl _,fun _=>⟨rfl,rfl,?_⟩⟩⟩
      all_goals by_cases hi:i=id
      ·subst hi;rw[hcur];exact hc'
      ·rw[zAn hi];exact hc'
      ·subst hi;rw[hcur];exact hc'
      ·rw[zAn hi];exact hc'
      ·subst hi;exact hdim
      exact zBT hi
     obtain⟨e,hh,f⟩:=zFi (w':=w.setCells b off vs) h hb k4 hcur hdim s4 s5
      ⟨⟨c',ty,fr,s1,by rw[s2];exact k2,(k3.splice hv (by omega) s2 s3).mono e0⟩,k4⟩
     exact⟨_,γ,hrun,e,hh,f⟩
   cases hx
  cases hx
 ·rename_i id ver i off;split at hx
  ·rename_i s ver' es hg;split at hx
   ·rename_i hver;split at hx
    ·rename_i e he;split at hx
     ·rename_i hle;split at hx
      ·rename_i ts hts;cases hx;have hcs:=zEW hts;subst hcs;obtain⟨hvl,hvt⟩:=hv.trees;cases ha with
       |el _ _ _ _ ad ho hh =>
        have hcu:cur g id=some ver:=by rw[kR hg,hver]
        obtain⟨b,s',n',hb,hd,rfl⟩:=hh hcu;rw[vU hg] at hd;cases hd;obtain⟨o,ho',hor⟩:=h.obj id b hb;rw[hg] at ho';cases ho';obtain⟨⟨c,ty,fr,k1,k2,k3,k4,k5,k6,k7⟩,k8⟩:=hor;rw[yP] at he;have hil:=zR he;have hel:=k5 e (List.mem_of_getElem? he);simp at hle;have hle2:=xY hil (k:=off+ts.length) (s:=s) (by omega);refine⟨b,i * s+off,rfl,?_⟩;have hrun:=run_storeCells_cells (P:=P) b (i * s+off) vs 0 w (fun j hj=>zF8 k1 (by omega)) (fun j hj=>zDy k1 k2 (by omega)) h1c;obtain⟨c',s1,s2,s3,s4,s5⟩:=zBb b ty fr vs (i * s+off) w c k1 (by omega);simp only[Nat.add_zero] at hrun;rw[qP];have hcur:cur (upd g [(id,.arr s ver' false (es.set i (splice e off ts)))]) id=cur g id:=by unfold cur;rw[yS,if_pos rfl,hg]
        have hdim:dims (upd g [(id,.arr s ver' false (es.set i (splice e off ts)))]) id=dims g id:=by unfold dims;rw[yS,if_pos rfl,hg];simp
        obtain⟨e',hh',f⟩:=zFi (w':=w.setCells b (i * s+off) vs) h hb (k8 rfl) hcur hdim s4 s5
         ⟨⟨c',ty,fr,s1,by rw[s2];exact k2,by rw[s2];exact k3,by simpa [s2] using k4,fun x hx=>by
           rcases List.mem_or_eq_of_mem_set hx with hx|hx
           ·exact k5 x hx
           rw[hx,zBd _ _ _ (by omega)];exact hel,
          fun k j x t v a1 a2 a3=>by
           rw[s3] at a3;rw[List.getElem?_set] at a1
           by_cases hk:i=k
           ·subst hk;rw[if_pos rfl,if_pos hil] at a1;cases a1;have hj:=zR a2;rw[zBd _ _ _ (by omega)] at hj;rw[zGX _ _ _ (by omega)] at a2;split at a2
            ·rename_i hjj;rw[if_pos (by omega)] at a3;have hv':vs[j - off]?=some v:=by rw[← a3];congr 1;omega
             exact⟨hvt (j - off) t v a2 hv',h1c v (List.mem_of_getElem? hv')⟩
            rename_i hjj;rw[if_neg (by omega)] at a3;exact k6 i j e t v he a2 a3
           rw[if_neg hk] at a1;have hkl:=zR a1;have hxl:=k5 x (List.mem_of_getElem? a1);have hj:=zR a2;have hout:¬ (i * s+off≤k * s+j∧k * s+j<i * s+off+vs.length):=by
            rcases Nat.lt_or_ge i k with hik|hik
            ·have:=xY hik (k:=off+ts.length) (s:=s) (by omega);omega
            have hki:k<i:=by omega
            have:=xY hki (k:=j+1) (s:=s) (by omega);omega
           rw[if_neg hout] at a3;exact k6 k j x t v a1 a2 a3,
          fun hf=>by cases hf⟩,fun _=>k8 rfl⟩
        exact⟨_,γ,hrun,e',hh',f⟩
      cases hx
     cases hx
    cases hx
   cases hx
  ·rename_i s ver' es hg;split at hx
   ·rename_i hver;split at hx
    ·rename_i e he;split at hx
     ·rename_i hle;cases hx;have hvl:=hv.1;cases ha with
      |el _ _ _ _ ad ho hh =>
       have hcu:cur g id=some ver:=by unfold cur;rw[hg];simp [hver]
       obtain⟨b,s',n',hb,hd,rfl⟩:=hh hcu;have hds:s=s':=by unfold dims at hd;rw[hg] at hd;simp at hd;exact hd.1
       subst hds;obtain⟨o,ho',hor⟩:=h.obj id b hb;rw[hg] at ho';cases ho';obtain⟨⟨c,ty,fr,k1,k2,k3,k4,k5,k6⟩,k8⟩:=hor;rw[yP] at he;have hil:=zR he;have hel:=k5 e (List.mem_of_getElem? he);have hle2:=xY hil (k:=off+cs.length) (s:=s) (by omega);refine⟨b,i * s+off,rfl,?_⟩;have hrun:=run_storeCells_cells (P:=P) b (i * s+off) vs 0 w (fun j hj=>zF8 k1 (by omega)) (fun j hj=>zDy k1 k2 (by omega)) h1c;obtain⟨c',s1,s2,s3,s4,s5⟩:=zBb b ty fr vs (i * s+off) w c k1 (by omega);simp only[Nat.add_zero] at hrun;rw[qP];have hcur:cur (upd g [(id,.marr s ver' (es.set i (splice e off cs)))]) id=cur g id:=by unfold cur;rw[yS,if_pos rfl,hg]
       have hdim:dims (upd g [(id,.marr s ver' (es.set i (splice e off cs)))]) id=dims g id:=by unfold dims;rw[yS,if_pos rfl,hg];simp
       have e0:Ext γ g γ (upd g [(id,.marr s ver' (es.set i (splice e off cs)))]):=by
        refine⟨.refl _,fun i b hb hc'=>⟨hb,?_⟩,fun i c hc'=>⟨c,?_,Nat.le_refl _,fun _=>⟨rfl,rfl,?_⟩⟩⟩
        all_goals by_cases hi:i=id
        ·subst hi;rw[hcur];exact hc'
        ·rw[zAn hi];exact hc'
        ·subst hi;rw[hcur];exact hc'
        ·rw[zAn hi];exact hc'
        ·subst hi;exact hdim
        exact zBT hi
       obtain⟨e',hh',f⟩:=zFi (w':=w.setCells b (i * s+off) vs) h hb k8 hcur hdim s4 s5
        ⟨⟨c',ty,fr,s1,by rw[s2];exact k2,by rw[s2];exact k3,by simpa [s2] using k4,fun x hx=>by
          rcases List.mem_or_eq_of_mem_set hx with hx|hx
          ·exact k5 x hx
          rw[hx,zBd _ _ _ (by omega)];exact hel,
         fun k j x t v a1 a2 a3=>by
          refine VR.mono e0 ?_;rw[s3] at a3;rw[List.getElem?_set] at a1
          by_cases hk:i=k
          ·subst hk;rw[if_pos rfl,if_pos hil] at a1;cases a1;have hj:=zR a2;rw[zBd _ _ _ (by omega)] at hj;rw[zGX _ _ _ (by omega)] at a2;split at a2
           ·rename_i hjj;rw[if_pos (by omega)] at a3;exact hv.2 (j - off) t v a2 (by rw[← a3];congr 1;omega)
           rename_i hjj;rw[if_neg (by omega)] at a3;exact k6 i j e t v he a2 a3
          rw[if_neg hk] at a1;have hkl:=zR a1;have hxl:=k5 x (List.mem_of_getElem? a1);have hj:=zR a2;have hout:¬ (i * s+off≤k * s+j∧k * s+j<i * s+off+vs.length):=by
           rcases Nat.lt_or_ge i k with hik|hik
           ·have:=xY hik (k:=off+cs.length) (s:=s) (by omega);omega
           have hki:k<i:=by omega
           have:=xY hki (k:=j+1) (s:=s) (by omega);omega
          rw[if_neg hout] at a3;exact k6 k j x t v a1 a2 a3⟩,k8⟩
       exact⟨_,γ,hrun,e',hh',f⟩
     cases hx
    cases hx
   cases hx
  cases hx
 cases hx
def zO7 {P:Program} {w:World} {t:TypeId} {n:Nat} {a:Addr} {v:Value} (hn:sizeOf? P t=some n) (hs:v.cells.toList.length=n) :
  (storeVar t a v).run P w=(storeCells a v.cells.toList).run P w:=by
 unfold storeVar;have:v.cells.size=n:=by simpa using hs
 simp [vR hn,this]
def zVo {P:Program} {γ:G} {g:Look} {w:World} {t:TypeId} {a x v:AV} {ua ux:Value} {p:Patch} (h:HR γ g w) (ha:VR γ g a ua) (hv:VR γ g x ux)
  (hx:uQ P g t a x=some (.val v,p)):v=.nov∧zLi γ g w p ((Instr.storeAt t ua ux).run P w):=by
 unfold uQ at hx;split at hx
 ·rename_i n hn;dsimp only at hx;split at hx
  ·rename_i cs hcs;split at hx
   ·rename_i hlc;obtain⟨hl,hc1⟩:=hlc;split at hx
    ·rename_i p' hp';cases hx;refine⟨rfl,?_⟩;have key:∀ {γ1:G} {q:Patch} {x1:AV},Ext γ g γ1 (upd g q)→HR γ1 (upd g q) w→Fr γ w γ1 w→VR γ1 (upd g q) x1 ux→cellsOf x1=some cs→storeAt (upd g q) a cs=some p' →
       zLi γ g w (q++p') ((Instr.storeAt t ua ux).run P w):=by
      intro γ1 q x1 e1 h1 f1 hv1 hcs1 hst;have hcells:=zCf hcs1 hv1;obtain⟨b,o,rfl,w',γ2,r1,r2,r3,r4⟩:=zPE (P:=P) h1 (ha.mono e1) hcells hc1 hst;have hlen:ux.cells.toList.length=n:=by rw[← hcells.1];exact hl
      refine⟨w',γ2,?_,?_,?_,f1.trans r4⟩
      ·simp only[Instr.storeAt,Instr.sureAddr,Sem.run_bind,Sem.run_pure,Result.andThen_ok];rw[zO7 hn hlen];exact r1
      ·rw[zAs];exact e1.trans r2
      rw[zAs];exact r3
     split at hcs
     ·rename_i i1 i2 i3 i4;obtain⟨γ1,e1,h1,f1,_,hv1⟩:=zRq h hv;exact key e1 h1 f1 hv1 hcs hp'
     rename_i hne;exact key (q:=[]) (.refl _ _) h (.refl _ _) hv hcs (by
      cases a<;>first|exact hp'|exact absurd rfl (hne _ _ _ _))
    cases hx
   cases hx
  cases hx
 cases hx
def zOo {P:Program} {γ:G} {g:Look} {w:World} {x v:AV} {u:Value} (hv:VR γ g x u) (hx:wU x=some v) :
  v=x∧(match (generalizing:=false) u with
   |.pointer none|.nilIface|.nilFunc=>runtimePanic .nilDeref
   |.func (.method name) first captured =>
    match (first[0]?:Option Value) with
    |some .nilIface=>runtimePanic .nilDeref
    |some (.iface t w)=>do
     if (← nilAhead ((← program).types.size+Made.depth) t w name) != some false then
      unsupported (.noEntry "op/nilCheck.the method's receiver behind this interface value is a nil pointer, or cannot be seen to be none, and the arguments act or may panic (ledger 612)")
     pure (.value (.func (.method name) first captured))
    |_=>pure (.value (.func (.method name) first captured))
   |x=>pure (.value x):Sem Next).run P w=.ok (.value u) w:=by
 unfold wU at hx;split at hx
 all_goals (first|cases hx;done|skip)<;>cases hx<;>refine⟨rfl,?_⟩
 ·cases hv;rfl
 ·cases hv;rfl
 ·cases hv;rfl
 ·cases hv with
  |t _ _ ht=>cases ht;rfl
 cases hv;rfl
def zLv{s:Sem Value}{x:Tree}(h:zLG s=some x):∃v,s=.pure v∧vG v=some x:=by
 unfold zLG at h;split at h
 ·rename_i v;exact⟨v,rfl,h⟩
 cases h
def zMP{I:Imm}{v:Value}{x:Tree}(h:vG v=some x):TR I x v:=by
 unfold vG at h;split at h
 ·cases h;exact .bool _
 ·cases h;exact .int _ _
 cases h
def zZb{I:Imm}{v u:Value}{x:Tree}(h:scal x=some v)(hr:TR I x u):u=v:=by
 unfold scal at h;split at h
 ·cases h;cases hr;rfl
 ·cases h;cases hr;rfl
 cases h
def zWx {P:Program} {γ:G} {g:Look} {w:World} {op:UnOp} {x v:AV} {u:Value} (h:HR γ g w) (hv:VR γ g x u) (hx:unop op x=some v) :
  Good γ g w [] v ((Op.unary op u).run P w):=by
 unfold unop at hx;split at hx
 ·rename_i x';split at hx
  ·rename_i v' hs;have:=zZb hs hv.of_tree;subst this;simp only[Option.map_eq_some_iff] at hx;obtain⟨y,hy,rfl⟩:=hx;obtain⟨r,hr,hur⟩:=zLv hy;rw[hr];exact .pure h (.t _ _ (zMP hur))
  cases hx
 cases hx
def zVq(s:ByteArray):s.toList=s.data.toList:=by
 have key:∀(n i:Nat) (r:List UInt8),s.size - i=n→ByteArray.toList.loop s i r=r.reverse++s.data.toList.drop i:=by
  intro n
  induction n with
  |zero =>
   intro i r h;unfold ByteArray.toList.loop;rw[if_neg (by omega),List.drop_of_length_le (by rw[Array.length_toList];show s.size≤i;omega)];simp
  |succ n ih =>
   intro i r h;unfold ByteArray.toList.loop;have hi:i<s.size:=by omega
   rw[if_pos hi,ih (i+1) _ (by omega)];have hd:s.data.toList.drop i=s.get! i::s.data.toList.drop (i+1):=by
    rw[List.drop_eq_getElem_cons (by rw[Array.length_toList];exact hi)]
    congr 1
    have:s.get! i=s.data[i]!:=rfl;rw[this];rw[Array.getElem_toList];exact(getElem!_pos s.data i hi).symm
   rw[hd];simp
 have:=key (s.size - 0) 0 [] rfl
 simpa [ByteArray.toList] using this
def mkS(s:List Nat):ByteArray:=⟨(s.map UInt8.ofNat).toArray⟩
def zES(s:List Nat):(mkS s).toList=s.map UInt8.ofNat:=by rw[zVq];simp [mkS]
def zMD{a b:Nat}(ha:a<256)(hb:b<256)(h:UInt8.ofNat a=UInt8.ofNat b):a=b:=by
 have:=congrArg UInt8.toNat h;simp [UInt8.toNat_ofNat'] at this;omega
def zZp{x y:List Nat}(hx:∀b ∈ x,b<256)(hy:∀b ∈ y,b<256)(h:x.map UInt8.ofNat=y.map UInt8.ofNat):x=y:=by
 induction x generalizing y with
 |nil=>cases y with
  |nil=>rfl
  |cons b y=>simp at h
 |cons a x ih=>cases y with
  |nil=>simp at h
  |cons b y =>
   simp only[List.map_cons,List.cons.injEq] at h;rw[zMD (hx a (by simp)) (hy b (by simp)) h.1,ih (fun c hc=>hx c (by simp [hc])) (fun c hc=>hy c (by simp [hc])) h.2]
def zLX{x y:List Nat}(hx:∀b ∈ x,b<256)(hy:∀b ∈ y,b<256):((mkS x).toList==(mkS y).toList)=beqL x y:=by
 rw[zES,zES,vC]
 by_cases h:x=y
 ·subst h;simp
 have:x.map UInt8.ofNat≠y.map UInt8.ofNat:=fun hh=>h (zZp hx hy hh)
 simp [h,this]
def zOi:∀ {x y:List Nat},(∀b ∈ x,b<256)→(∀b ∈ y,b<256)→Op.bytesLess (x.map UInt8.ofNat) (y.map UInt8.ofNat)=bytesLess x y
 |x,[],_,_=>by cases x<;>simp [Op.bytesLess,bytesLess]
 |[],b::y,_,_=>by simp [Op.bytesLess,bytesLess]
 |a::x,b::y,hx,hy=>by
  have ih:=zOi (x:=x) (y:=y) (fun c hc=>hx c (by simp [hc])) (fun c hc=>hy c (by simp [hc]));have ha:=hx a (by simp);have hb:=hy b (by simp);simp only[List.map_cons,Op.bytesLess,bytesLess,ih];have h1:decide (UInt8.ofNat a<UInt8.ofNat b)=Nat.blt a b:=by
   rw[Bool.eq_iff_iff];simp [UInt8.lt_iff_toNat_lt,UInt8.toNat_ofNat',Nat.mod_eq_of_lt ha,Nat.mod_eq_of_lt hb,Nat.blt_eq]
  have h2:(UInt8.ofNat a==UInt8.ofNat b)=Nat.beq a b:=by
   rw[Bool.eq_iff_iff];simp only[beq_iff_eq,Nat.beq_eq];exact⟨fun h=>zMD ha hb h,fun h=>by rw[h]⟩
  rw[h1,h2]
def zSc(x y:List Nat):mkS (x++y)=mkS x++mkS y:=by
 apply ByteArray.ext;simp [mkS,ByteArray.data_append]
def zAx(x:List Nat):(mkS x).size=x.length:=by simp [mkS,ByteArray.size]
theorem TR.str_inv{I:Imm}{s:List Nat}{u:Value}(h:TR I (.str s) u):u=.string (mkS s)∧∀b ∈ s,b<256:=by
 cases h with
 |str _ hb=>exact⟨rfl,hb⟩
theorem TR.mkS{I:Imm}{s:List Nat}(h:∀b ∈ s,b<256):TR I (.str s) (.string (mkS s)):=.str s h
def zST {P:Program} {γ:G} {g:Look} {w:World} {op:BinOp} {a b:List Nat} {x:Tree} {ua ub:Value} (h:HR γ g w) (ha:TR γ.imm (.str a) ua) (hb:TR γ.imm (.str b) ub) (t:TypeId)
  (hx:zNG op a b=some x):Good γ g w [] (.t x) ((Go.binOp op t ua ub).run P w):=by
 obtain⟨rfl,ha'⟩:=ha.str_inv;obtain⟨rfl,hb'⟩:=hb.str_inv;have heq:=zLX ha' hb';have hlt:Op.bytesLess (Ab.mkS a).toList (Ab.mkS b).toList=bytesLess a b:=by rw[zES,zES,zOi ha' hb']
 have hbo:∀c:Bool,Good γ g w [] (.t (.bool c)) (.ok (.bool c) w):=fun c=>.pure h (.t _ _ (.bool c))
 unfold zNG at hx;cases op<;>simp only[reduceCtorEq] at hx
 case add =>
  split at hx
  ·rename_i hl;cases hx;have:¬ ((((Ab.mkS a).size+(Ab.mkS b).size:Nat):Int) > IntKind.i64.max):=by
    rw[zAx,zAx];have:IntKind.i64.max=9223372036854775807:=by decide
    omega
   simp only[Go.binOp,Op.stringOp,if_neg this];rw[← zSc];exact .pure h (.t _ _ (.mkS fun c hc=>by rcases List.mem_append.1 hc with hc|hc;exact ha' c hc;exact hb' c hc))
  cases hx
 all_goals cases hx<;>simp only[Go.binOp,Op.stringOp,heq,hlt]<;>exact hbo _
def zJM {P:Program} {γ:G} {g:Look} {w:World} {t:TypeId} {cs:List AV} {vs:List Value} {off:Nat} {x:AV} (hv:VRs γ g cs vs) (hx:part P t cs off=some x) :
  ∃u,(Go.part t vs.toArray off).run P w=.ok u w∧VR γ g x u:=by
 unfold part at hx;split at hx
 ·rename_i ha;split at hx
  ·rename_i n hn;split at hx
   ·rename_i l hl;cases hx;have hc:=zAv hl;refine⟨.agg (vs.toArray.extract off (off+n)),by simp [Go.part,zDb ha,vR hn],?_⟩;have e:vs.toArray.extract off (off+n)=((vs.drop off).take n).toArray:=by
     apply Array.ext';simp [List.extract_eq_take_drop]
    rw[e];refine .mkAgg ⟨by rw[vL hl];have:=hv.1;simp;omega,fun i c v hci hvi=>?_⟩;have hi:i<n:=by have:=zR hci;rw[vL hl] at this;exact this
    rw[zDY hl hi] at hci;rw[List.getElem?_take_of_lt hi,List.getElem?_drop] at hvi;exact hv.2 _ _ _ hci hvi
   cases hx
  cases hx
 ·rename_i ha;rw[yP] at hx;have hl:=zR hx;have hvl:off<vs.length:=by rw[← hv.1];exact hl
  have hvo:vs[off]?=some vs[off]:=List.getElem?_eq_getElem hvl;refine⟨vs[off],?_,hv.2 off x _ hx hvo⟩;simp [Go.part,zDb ha,hvo]
 cases hx
def zR5{P:Program}{t:TypeId}{cs:List Tree}{off:Nat}{x:Tree}(h:zEc P t cs off=some x):∃y,part P t (cs.map .t) off=some y∧y=.t x:=by
 unfold zEc at h;unfold part;have trees_map:∀l:List Tree,trees (l.map .t)=some l:=fun l=>by
  induction l with
  |nil=>rfl
  |cons a l ih=>simp [trees,ih]
 cases ha:agg? P t with
 |none=>simp [ha] at h
 |some b =>
  rw[ha] at h;cases b with
  |true =>
   simp only at h ⊢;split at h
   ·rename_i n hn;split at h
    ·rename_i l hl;cases h;have hc:=zAv hl;have:cut (cs.map AV.t) off n=some (l.map AV.t):=by
      unfold cut;rw[if_pos (by simpa using hc.1),hc.2];simp [List.map_take,List.map_drop]
     rw[this];refine⟨_,rfl,?_⟩;unfold mkAgg;rw[trees_map]
    cases h
   cases h
  |false =>
   simp only at h ⊢;rw[yP] at h ⊢;exact⟨.t x,by simp [h],rfl⟩
def zM3 {P:Program} {I:Imm} {w:World} {t:TypeId} {cs:List Tree} {vs:List Value} {off:Nat} {x:Tree} (hl:cs.length=vs.length)
  (hv:∀(i:Nat) c v,cs[i]?=some c→vs[i]?=some v→TR I c v) (hx:zEc P t cs off=some x) :
  ∃u,(Go.part t vs.toArray off).run P w=.ok u w∧TR I x u:=by
 obtain⟨y,hy,rfl⟩:=zR5 hx;have:=zJM (P:=P) (γ:=⟨fun _=>none,fun _=>0,I⟩) (g:=fun _=>none) (w:=w) (VRs.of_trees hl hv) hy;obtain⟨u,hu,hr⟩:=this;exact⟨u,hu,hr.of_tree⟩
theorem TR.agg_inv {I:Imm} {cs:List Tree} {u:Value} (h:TR I (.agg cs) u) :
  ∃vs:List Value,u=.agg vs.toArray∧cs.length=vs.length∧∀(i:Nat) c v,cs[i]?=some c→vs[i]?=some v→TR I c v:=by
 cases h with
 |agg _ vs hl hh=>exact⟨vs,rfl,hl,hh⟩
def zF6{P:Program}{I:Imm}{w:World}:∀(d:Nat) (D:Nat) (t:TypeId) (x y:Tree) (b:Bool) (u v:Value),equal P d t x y=some b→d≤D→TR I x u→TR I y v →
  (Op.equalIn D t u v).run P w=.ok b w
 |0,_,_,_,_,_,_,_,h,_,_,_=>by simp [equal] at h
 |d+1,D,t,x,y,b,u,v,h,hd,hx,hy=>by
  obtain⟨D',rfl⟩:∃D',D=D'+1:=⟨D - 1,by omega⟩;unfold equal at h;split at h
  ·rename_i p q hu;cases h;cases hx;cases hy;exact run_equalIn_bool' w D' t p q (wZ hu)
  ·rename_i k' k p k'' q hu;split at h
   ·rename_i hk;subst hk;cases h;cases hx;cases hy;exact run_equalIn_int w D' t _ _ p q (wZ hu)
   cases h
  ·rename_i p q hu;cases h;obtain⟨rfl,hp⟩:=hx.str_inv;obtain⟨rfl,hq⟩:=hy.str_inv;rw[run_equalIn_string w D' t _ _ (wZ hu),zLX hp hq]
  ·rename_i fields xs ys hu;split at h
   ·cases h
   rename_i hst;obtain⟨us,rfl,hul,hur⟩:=hx.agg_inv;obtain⟨vs,rfl,hvl,hvr⟩:=hy.agg_inv;have hf:P.fieldsOf t=fields:=by unfold Program.fieldsOf;rw[wZ hu]
   rw[run_equalIn_struct w D' t _ _ (by rw[hf];exact wZ hu) (by simpa using hst),hf];clear hu hf;generalize fields.toList=fs at h
   induction fs with
   |nil=>simp [equal.eqFields] at h;subst h;rfl
   |cons f fs ih =>
    unfold equal.eqFields at h;unfold Op.eqFields;split at h
    ·rename_i hn;rw[if_neg (by simpa using hn)];exact ih h
    rename_i hn;rw[if_pos (by simpa using hn)];split at h
    ·rename_i a c ha hc;obtain⟨ua,ra,ta⟩:=zM3 (P:=P) (w:=w) hul hur ha;obtain⟨uc,rc,tc⟩:=zM3 (P:=P) (w:=w) hvl hvr hc;simp only[Sem.run_bind,ra,rc,Result.andThen_ok];split at h
     ·rename_i he;rw[zF6 d D' f.type a c true ua uc he (by omega) ta tc]
      simpa using ih h
     ·rename_i he;cases h;rw[zF6 d D' f.type a c false ua uc he (by omega) ta tc];simp
     cases h
    cases h
  cases h
def zGQ{P:Program}:∀(d D:Nat) (t:TypeId),zBm P d t=false→d≤D→P.eqGuardType D t=false
 |0,_,_,h,_=>by simp [zBm] at h
 |d+1,D,t,h,hd=>by
  obtain⟨D',rfl⟩:∃D',D=D'+1:=⟨D - 1,by omega⟩;unfold zBm at h;unfold Program.eqGuardType;split at h
  ·rename_i ms hu;rw[wZ hu];simpa using h
  ·rename_i fs hu;rw[wZ hu];simp only[List.any_eq_false] at h;simp only[Array.any_eq_false'];intro f hf;have hh:=h f (by simpa using hf);simp only[Bool.and_eq_true,not_and,Bool.not_eq_true] at hh ⊢;intro hn;exact zGQ d D' f.type (hh hn) (by omega)
  ·rename_i n e hu;rw[wZ hu];exact zGQ d D' e h (by omega)
  ·rename_i dd h1 h2 h3 hu;rw[wZ hu];cases dd<;>first|rfl|(exact absurd rfl (h1 _))|(exact absurd rfl (h2 _))|(exact absurd rfl (h3 _ _))
  cases h
def zWu(P:Program):50≤P.depth:=by
 have:Made.depth=100:=rfl;unfold Program.depth;omega
def vP {P:Program} {w:World} {op:BinOp} {t:TypeId} {ox oy:Operand} {a b:Value} (h1:a≠.nilIface) (h2:∀x,a≠.agg x) :
  (eqGuard op t ox oy a b).run P w=.ok () w:=by
 unfold eqGuard;cases op<;>simp only[Bool.not_true,Bool.not_false,Bool.false_eq_true,if_false,if_true,Sem.run_pure]
 all_goals (first|rfl|skip)<;>(cases a<;>first|rfl|exact absurd rfl h1|exact absurd rfl (h2 _))
def zIq {γ:G} {g:Look} {x:AV} {u:Value} {k:Nat} {b:Bool} (hx:zEK x=some (k,b)) (hv:VR γ g x u) :
  (k=0∧((b=true∧u=.nilFunc)∨(b=false∧∃f a c,u=.func f a c)))∨(k=1∧((b=true∧u=.pointer none)∨(b=false∧∃a,u=.pointer (some a)))) ∨
  (k=2∧((b=true∧u=.slice none 0 0)∨(b=false∧∃a n c,u=.slice (some a) n c)))∨(k=3∧((b=true∧u=.map none)∨(b=false∧∃a,u=.map (some a)))):=by
 unfold zEK at hx;split at hx<;>first|(cases hx;done)|skip
 all_goals cases hx
 ·cases hv with|t _ _ ht=>cases ht;simp
 ·cases hv with|t _ _ ht=>cases ht;simp
 ·cases hv;simp
 ·cases hv with|t _ _ ht=>cases ht;simp
 ·cases hv;simp
 ·cases hv;simp
 ·cases hv;simp
 ·cases hv with
  |t _ _ ht=>cases ht with
   |sl nl clip es a cap s val h0 h1 h2 h3 h4 h5 h6 =>
    cases b with
    |true=>obtain⟨rfl,rfl,rfl⟩:=h0 rfl;simp
    |false=>obtain⟨hne,_⟩:=h1 rfl;cases a with
     |none=>exact absurd rfl hne
     |some a=>simp
 ·cases hv;simp
 ·cases hv;simp
 ·cases hv with|t _ _ ht=>cases ht;simp
 cases hv;simp
def zNp {P:Program} {γ:G} {g:Look} {w:World} {t:TypeId} {x y:AV} {ux uy:Value} {b:Bool} (hx:VR γ g x ux) (hy:VR γ g y uy) (h:zGP P t x y=some b) :
  (Op.equal t ux uy).run P w=.ok b w∧(∀(op:BinOp) (ox oy:Operand),(eqGuard op t ox oy ux uy).run P w=.ok () w) ∧
   Go.binOp .eql t ux uy=(do pure (.bool (← Op.equal t ux uy)))∧Go.binOp .neq t ux uy=(do pure (.bool (!(← Op.equal t ux uy)))):=by
 unfold zGP at h;split at h
 ·rename_i k a m c n hk ha hc;have hka:=zIq ha hx;have hkc:=zIq hc hy;have hu:(k=0→∃p q r,P.underlying t=some (.func p q r))∧(k=1→∃e,P.underlying t=some (.pointer e))∧(k=2→∃e,P.underlying t=some (.slice e))∧(k=3→∃e f,P.underlying t=some (.map e f)):=by
   unfold zJc at hk;split at hk<;>first|(cases hk;done)|skip
   all_goals (rename_i hh;cases hk;have:=wZ hh;refine⟨?_,?_,?_,?_⟩<;>intro h0<;>first|(cases h0;done)|exact⟨_,this⟩|exact⟨_,_,_,this⟩|exact⟨_,_,this⟩)
  have hm:Nat.beq k a=true∧Nat.beq k c=true:=by
   split at h
   ·rename_i hh;simpa using hh
   ·rename_i hh;simpa using hh
   cases h
  obtain⟨e1,e2⟩:=hm;have e1:=Nat.eq_of_beq_eq_true e1;have e2:=Nat.eq_of_beq_eq_true e2;subst e1;subst e2;have hmn:(m=true∧b=n)∨(m=false∧n=true∧b=false):=by
   split at h
   ·cases h;exact .inl ⟨rfl,rfl⟩
   ·cases h;exact .inr ⟨rfl,rfl,rfl⟩
   cases h
  clear h ha hc hk;rcases hka with ⟨rfl,hka⟩|⟨rfl,hka⟩|⟨rfl,hka⟩|⟨rfl,hka⟩
  ·obtain⟨p,q,r,hu⟩:=hu.1 rfl;have hkc':(n=true∧uy=.nilFunc)∨(n=false∧∃f a c,uy=.func f a c):=by simpa using hkc
   rcases hka with ⟨rfl,rfl⟩|⟨rfl,f,a,c,rfl⟩<;>rcases hkc' with ⟨rfl,rfl⟩|⟨rfl,f',a',c',rfl⟩<;>simp at hmn<;>subst hmn <;>
    exact⟨by(show (Op.equalIn (9999+1) t _ _).run P w=_);generalize 9999=d;simp [Op.equalIn,underlying,hu],fun op ox oy=>vP (by simp) (by simp),rfl,rfl⟩
  ·obtain⟨e,hu⟩:=hu.2.1 rfl;have hkc':(n=true∧uy=.pointer none)∨(n=false∧∃a,uy=.pointer (some a)):=by simpa using hkc
   rcases hka with ⟨rfl,rfl⟩|⟨rfl,a,rfl⟩<;>rcases hkc' with ⟨rfl,rfl⟩|⟨rfl,a',rfl⟩<;>simp at hmn<;>subst hmn <;>
    exact⟨by(show (Op.equalIn (9999+1) t _ _).run P w=_);generalize 9999=d;simp [Op.equalIn,underlying,hu],fun op ox oy=>vP (by simp) (by simp),rfl,rfl⟩
  ·obtain⟨e,hu⟩:=hu.2.2.1 rfl;have hkc':(n=true∧uy=.slice none 0 0)∨(n=false∧∃a n c,uy=.slice (some a) n c):=by simpa using hkc
   rcases hka with ⟨rfl,rfl⟩|⟨rfl,a,l,c,rfl⟩<;>rcases hkc' with ⟨rfl,rfl⟩|⟨rfl,a',l',c',rfl⟩<;>simp at hmn<;>subst hmn <;>
    exact⟨by(show (Op.equalIn (9999+1) t _ _).run P w=_);generalize 9999=d;simp [Op.equalIn,underlying,hu],fun op ox oy=>vP (by simp) (by simp),rfl,rfl⟩
  obtain⟨e,f,hu⟩:=hu.2.2.2 rfl;have hkc':(n=true∧uy=.map none)∨(n=false∧∃a,uy=.map (some a)):=by simpa using hkc
  rcases hka with ⟨rfl,rfl⟩|⟨rfl,a,rfl⟩<;>rcases hkc' with ⟨rfl,rfl⟩|⟨rfl,a',rfl⟩<;>simp at hmn<;>subst hmn <;>
   exact⟨by(show (Op.equalIn (9999+1) t _ _).run P w=_);generalize 9999=d;simp [Op.equalIn,underlying,hu],fun op ox oy=>vP (by simp) (by simp),rfl,rfl⟩
 cases h
def zTT {P:Program} {γ:G} {g:Look} {w:World} {op:BinOp} {t:TypeId} {x y v:AV} {ux uy:Value} (ox oy:Operand) (h:HR γ g w) (hx:VR γ g x ux) (hy:VR γ g y uy)
  (hb:binop P op t x y=some v):Good γ g w [] v ((do eqGuard op t ox oy ux uy;Go.binOp op t ux uy:Sem Value).run P w):=by
 unfold binop at hb;split at hb
 ·rename_i k a k' b;have hxt:=hx.of_tree;have hyt:=hy.of_tree;cases hxt;cases hyt;simp only[Option.map_eq_some_iff] at hb;obtain⟨z,hz,rfl⟩:=hb;obtain⟨r,hr,hur⟩:=zLv hz;rw[Sem.run_bind,vP (by simp) (by simp),Result.andThen_ok,hr];exact .pure h (.t _ _ (zMP hur))
 ·rename_i a b;simp only[Option.map_eq_some_iff] at hb;obtain⟨z,hz,rfl⟩:=hb;have hxt:=hx.of_tree;have:=hxt.str_inv;rw[Sem.run_bind,vP (by rw[this.1];simp) (by rw[this.1];simp),Result.andThen_ok];exact zST h hxt hy.of_tree t hz
 ·rename_i a b;have hxt:=hx.of_tree;have hyt:=hy.of_tree;cases hxt;cases hyt;rw[Sem.run_bind,vP (by simp) (by simp),Result.andThen_ok];split at hb
  ·rename_i hu;cases hb;have:(Go.binOp .eql t (.bool a) (.bool b)).run P w=.ok (.bool (a==b)) w:=by
    (show (do pure (.bool (← Op.equalIn (9999+1) t (.bool a) (.bool b))):Sem Value).run P w=_)
    rw[Sem.run_bind,run_equalIn_bool' w 9999 t a b (wZ hu)];rfl
   rw[this];exact .pure h (.t _ _ (.bool _))
  ·rename_i hu;cases hb;have:(Go.binOp .neq t (.bool a) (.bool b)).run P w=.ok (.bool !(a==b)) w:=by
    (show (do pure (.bool (!(← Op.equalIn (9999+1) t (.bool a) (.bool b)))):Sem Value).run P w=_)
    rw[Sem.run_bind,run_equalIn_bool' w 9999 t a b (wZ hu)];rfl
   rw[this];exact .pure h (.t _ _ (.bool _))
  cases hb
 ·rename_i xs ys;split at hb
  ·cases hb
  rename_i hgd;obtain⟨us,rfl,hul,hur⟩:=hx.of_tree.agg_inv;obtain⟨vs,rfl,hvl,hvr⟩:=hy.of_tree.agg_inv;have hg:P.eqGuardType P.depth t=false:=zGQ 50 P.depth t (by simpa using hgd) (zWu P);rw[Sem.run_bind,run_eqGuard_agg w op t ox oy _ _ hg,Result.andThen_ok];split at hb
  ·simp only[Option.map_eq_some_iff] at hb;obtain⟨b,he,rfl⟩:=hb;rw[run_eql_struct,zF6 100 10000 t _ _ b _ _ he (by omega) hx.of_tree hy.of_tree];exact .pure h (.t _ _ (.bool _))
  ·simp only[Option.map_eq_some_iff] at hb;obtain⟨b,he,rfl⟩:=hb;rw[run_neq_struct,zF6 100 10000 t _ _ b _ _ he (by omega) hx.of_tree hy.of_tree];exact .pure h (.t _ _ (.bool _))
  cases hb
 split at hb
 ·rename_i b hn;cases hb;obtain⟨h1,h2,h3,h4⟩:=zNp (w:=w) hx hy hn;rw[Sem.run_bind,h2,Result.andThen_ok,h3];simp only[Sem.run_bind,h1,Result.andThen_ok,Sem.run_pure];exact .pure h (.t _ _ (.bool _))
 ·rename_i b hn;cases hb;obtain⟨h1,h2,h3,h4⟩:=zNp (w:=w) hx hy hn;rw[Sem.run_bind,h2,Result.andThen_ok,h4];simp only[Sem.run_bind,h1,Result.andThen_ok,Sem.run_pure];exact .pure h (.t _ _ (.bool _))
 cases hb
def zK4 {γ:G} {g:Look} {x v:AV} {u:Value} {n:Nat} (hv:VR γ g x u) (hx:zW n x=some v) :
  ∃a,u=.pointer (some a)∧VR γ g v (.pointer (some (a.add n))):=by
 unfold zW at hx;split at hx
 ·cases hx;cases hv with
  |box _ _ b hb hc=>exact⟨_,rfl,by rw[vS];exact .box _ _ b hb hc⟩
 ·cases hx;cases hv with
  |el _ _ _ _ a ho hh =>
   refine⟨_,rfl,.el _ _ _ _ _ ho fun hc=>?_⟩;obtain⟨b,s,m,h1,h2,rfl⟩:=hh hc;exact⟨b,s,m,h1,h2,by rw[vS,Nat.add_assoc]⟩
 ·split at hx
  ·rename_i cs hn;cases hx;cases hv with
   |rp _ b o val h1 h2 =>
    refine⟨_,rfl,?_⟩;rw[vS];refine .rp (cs.drop n) b (o+n) (fun j=>val (n+j)) (fun j c hc=>?_) (fun j c hc=>?_)
    ·rw[List.getElem?_drop] at hc;rw[Nat.add_assoc];exact h1 _ _ hc
    rw[List.getElem?_drop] at hc;exact h2 _ _ hc
  cases hx
 cases hx
def zA7{o:Option AV}{v:AV}{p:Patch}(h:retO o=some (.val v,p)):o=some v∧p=[]:=by
 unfold retO at h;split at h
 ·cases h;exact⟨rfl,rfl⟩
 cases h
def zKh{o:Option AV}{v:AV}{p:Patch}:retO o≠some (.pan v,p):=by
 unfold retO;split<;>simp
def zNC {P:Program} {γ:G} {g:Look} {w:World} {s:TypeId} {x v:AV} {u:Value} {f:Nat} {p:Patch} (h:HR γ g w) (hv:VR γ g x u)
  (hx:zP P s x f=some (.val v,p)):Good γ g w p v ((Instr.fieldAt s u f).run P w):=by
 unfold zP at hx;split at hx
 ·rename_i fields hu;split at hx
  ·rename_i fd hfd;split at hx
   ·rename_i n hn
    replace hx:=zA7 hx
    obtain⟨hx,rfl⟩:=hx;obtain⟨a,rfl,hr⟩:=zK4 hv hx;rw[yP] at hfd;have hfd':fields[f]?=some fd:=by simpa using hfd
    simp only[Instr.fieldAt,Sem.run_bind,yQ hu,Result.andThen_ok,hfd',Instr.sureAddr,Sem.run_pure,fieldPlace,vR hn];simp only[if_false,Sem.run_pure,Result.andThen_ok,show ¬ (n+1=0) from by omega];exact .pure h hr
   cases hx
  cases hx
 cases hx
def zTq {P:Program} {γ:G} {g:Look} {w:World} {s:TypeId} {x v:AV} {u:Value} {f:Nat} {p:Patch} (h:HR γ g w) (hv:VR γ g x u)
  (hx:yB P s x f=some (.val v,p)):Good γ g w p v ((Instr.field s u f).run P w):=by
 unfold yB at hx;split at hx
 ·rename_i fields hu;split at hx
  ·rename_i fd hfd;split at hx
   ·rename_i cs hcs
    replace hx:=zA7 hx
    obtain⟨hx,rfl⟩:=hx;obtain⟨vs,rfl,hvs⟩:=zJw hcs hv;obtain⟨r,hr,hrv⟩:=zJM (P:=P) (w:=w) hvs hx;rw[yP] at hfd;have hfd':fields[f]?=some fd:=by simpa using hfd
    simp only[Instr.field,Sem.run_bind,yQ hu,Result.andThen_ok,hfd',asAgg,Sem.run_pure,hr];exact .pure h hrv
   cases hx
  cases hx
 cases hx
def zOy{α:Type}{l:List α}{i:Int}{x:α}(h:idx l i=some x):∃n:Nat,i=n∧l[n]?=some x:=by
 unfold idx at h;split at h
 ·rename_i n;exact⟨n,rfl,by rw[← yP];exact h⟩
 cases h
def zND {P:Program} {γ:G} {g:Look} {w:World} {t:TypeId} {x i v:AV} {u ui:Value} {p:Patch} (h:HR γ g w) (hv:VR γ g x u) (hi:VR γ g i ui)
  (hx:xM P g t x i=some (.val v,p)):Good γ g w p v ((Instr.indexAt t u ui).run P w):=by
 unfold xM at hx;split at hx
 ·rename_i k n
  replace hx:=zA7 hx
  obtain⟨hx,rfl⟩:=hx;have hit:=hi.of_tree;cases hit;have key:∀(base:Option Addr) (len:Nat) (elem:TypeId) (s:Nat) (a:Addr),und P t=some (.slice elem)→sizeOf? P elem=some s→(∃cap,u=.slice (some a) len cap) →
    0≤n→n<len→VR γ g v (.pointer (some (a.add (n.toNat * s))))→Good γ g w [] v ((Instr.indexAt t u (.int k n)).run P w):=by
   intro base len elem s a hu hs hua h0 hl hr;obtain⟨cap,rfl⟩:=hua;simp only[Instr.indexAt,asIntOf,Sem.run_bind,Sem.run_pure,Result.andThen_ok,yQ hu,Bool.and_false];rw[if_pos ⟨h0,hl⟩];simp only[Sem.run_bind,vR hs,Result.andThen_ok,Sem.run_pure];exact .pure h hr
  unfold indexAddr at hx;split at hx
  ·rename_i elem nl clip es hu;split at hx
   ·rename_i s e hs he;split at hx
    ·rename_i hel;cases hx;obtain⟨m,rfl,hm⟩:=zOy he;have hvt:=hv.of_tree;cases hvt with
     |sl _ _ _ a cap s' val h0 h1 h2 h3 h4 h5 h6 =>
      have hne:es≠[]:=fun hh=>by rw[hh] at hm;simp at hm
      have hnl:nl=false:=by
       cases nl with
       |false=>rfl
       |true=>exact absurd (h0 rfl).2.1 hne
      obtain⟨_,b,o,ha,hc⟩:=h1 hnl;have ha:=ha hne;subst ha;have hs':s'=s:=by rw[← h2 e (List.mem_of_getElem? hm)];exact hel
      subst hs';refine key none es.length elem s' ⟨b,o,none⟩ hu hs ⟨_,rfl⟩ (by omega) (by have:=zR hm;omega) ?_;rw[vS];simp only[Int.toNat_natCast];exact .rp e b (o+m * s') (val m) (fun j c hjc=>hc m j e c hm hjc) (fun j c hjc=>h3 m j e c hm hjc)
    cases hx
   cases hx
  ·rename_i elem id ver hu;have hgood:∀(s0 ver' len:Nat),cur g id=some ver'→dims g id=some (s0,len)→∀s,sizeOf? P elem=some s→(if ver=ver'∧s0=s∧0≤n∧n<len then some (AV.el id ver n.toNat 0) else none)=some v →
     Good γ g w [] v ((Instr.indexAt t u (.int k n)).run P w):=by
    intro s0 ver' len hcu hdi s hs hx;split at hx
    ·rename_i hh;obtain⟨rfl,rfl,h0,hl⟩:=hh;cases hx;cases hv with
     |hs _ _ a m cap ho hh =>
      obtain⟨b,s',hb,hd,rfl,hle,hsz⟩:=hh hcu;rw[hdi] at hd;cases hd;refine key none len elem s0 ⟨b,0,none⟩ hu hs ⟨_,rfl⟩ h0 hl ?_;rw[vS];exact .el id ver n.toNat 0 _ ho fun _=>⟨b,s0,len,hb,hdi,by simp⟩
    cases hx
   split at hx
   ·rename_i s0 ver' frz es s hg hs;exact hgood s0 ver' es.length (kR hg) (vU hg) s hs hx
   ·rename_i s0 ver' es s hg hs;exact hgood s0 ver' es.length (by unfold cur;rw[hg]) (by unfold dims;rw[hg]) s hs hx
   cases hx
  ·rename_i elem id ver lo len hu;split at hx
   ·rename_i s0 ver' frz es s hg hs;split at hx
    ·rename_i hh;obtain⟨rfl,rfl,h0,hl,hle⟩:=hh;cases hx;cases hv with
     |hsub _ _ _ _ a cap ho hh =>
      obtain⟨b,s',n',hb,hd,hc,hlo,ha⟩:=hh (kR hg);rw[vU hg] at hd;cases hd;have ha:=ha (by omega);subst ha;refine key none len elem s0 ⟨b,lo * s0,none⟩ hu hs ⟨_,rfl⟩ h0 hl ?_;rw[vS];exact .el id ver (lo+n.toNat) 0 _ ho fun _=>⟨b,s0,_,hb,vU hg,by rw[Nat.add_mul];simp⟩
    cases hx
   cases hx
  ·rename_i m elem x' hu;split at hx
   ·rename_i s hs;split at hx
    ·rename_i hh;obtain⟨a,rfl,hr⟩:=zK4 hv hx;simp only[Instr.indexAt,asIntOf,Sem.run_bind,Sem.run_pure,Result.andThen_ok,yQ hu,Instr.sureAddr];rw[if_pos hh];simp only[Sem.run_bind,vR hs,Result.andThen_ok,Sem.run_pure];exact .pure h hr
    cases hx
   cases hx
  cases hx
 cases hx
def zTS {P:Program} {γ:G} {g:Look} {w:World} {t:TypeId} {x i v:AV} {u ui:Value} {p:Patch} (h:HR γ g w) (hv:VR γ g x u) (hi:VR γ g i ui)
  (hx:uZ P t x i=some (.val v,p)):Good γ g w p v ((Instr.index t u ui).run P w):=by
 unfold uZ at hx;split at hx
 ·rename_i k n
  replace hx:=zA7 hx
  obtain⟨hx,rfl⟩:=hx;have hit:=hi.of_tree;cases hit;unfold index at hx;split at hx
  ·rename_i s hu;split at hx
   ·rename_i b hb;cases hx;obtain⟨m,rfl,hm⟩:=zOy hb;obtain⟨rfl,hbs⟩:=hv.of_tree.str_inv;have hml:=zR hm;have hget:(mkS s)[m]?=some (UInt8.ofNat b):=by
     have:m<(mkS s).size:=by rw[zAx];exact hml
     rw[getElem?_pos (mkS s) m this];have e:s[m]=b:=by rw[List.getElem?_eq_getElem hml] at hm;exact Option.some.inj hm
     have:(mkS s)[m]=(s.map UInt8.ofNat)[m]'(by simpa using hml):=rfl;rw[this,List.getElem_map,e]
    have hb8:b<256:=hbs b (List.mem_of_getElem? hm);simp only[Instr.index,asIntOf,Sem.run_bind,Sem.run_pure,Result.andThen_ok,yQ hu];rw[if_pos (by omega)];simp only[Int.toNat_natCast,hget,Sem.run_pure];have:(UInt8.ofNat b).toNat=b:=by simp [UInt8.toNat_ofNat',Nat.mod_eq_of_lt hb8]
    rw[this];exact .pure h (.t _ _ (.int _ _))
   cases hx
  ·rename_i m elem x' hu;split at hx
   ·rename_i s hs;split at hx
    ·rename_i cs hcs;split at hx
     ·rename_i hh;obtain⟨vs,rfl,hvs⟩:=zJw hcs hv;obtain⟨r,hr,hrv⟩:=zJM (P:=P) (w:=w) hvs hx;simp only[Instr.index,asIntOf,Sem.run_bind,Sem.run_pure,Result.andThen_ok,yQ hu];rw[if_pos hh];simp only[Sem.run_bind,vR hs,Result.andThen_ok,hr];exact .pure h hrv
     cases hx
    cases hx
   cases hx
  cases hx
 cases hx
def zPD {P:Program} {γ:G} {g:Look} {w:World} {x v:AV} {u:Value} {i:Nat} {p:Patch} (h:HR γ g w) (hv:VR γ g x u)
  (hx:wK x i=some (.val v,p)):Good γ g w p v ((Instr.extract u i).run P w):=by
 unfold wK at hx;split at hx
 ·rename_i vs
  replace hx:=zA7 hx
  obtain⟨hx,rfl⟩:=hx;rw[yP] at hx;cases hv with
  |tup _ us hl hh =>
   have hil:=zR hx;have hu:us[i]?=some (us[i]'(by omega)):=List.getElem?_eq_getElem (by omega);have hu':us.toArray[i]?=some (us[i]'(by omega)):=by simp
   simp only[Instr.extract,hu',Sem.run_pure];exact .pure h (hh i v _ hx hu)
 cases hx
def zHF(off:Nat):∀(l:List Value) (k:Nat) (cells:Array Value),off+k+l.length≤cells.size →
  ((l.zipIdx k).foldl (fun cs (c,j)=>cs.setIfInBounds (off+j) c) cells).size=cells.size ∧
   ∀i,((l.zipIdx k).foldl (fun cs (c,j)=>cs.setIfInBounds (off+j) c) cells)[i]?=if off+k≤i∧i<off+k+l.length then l[i - (off+k)]? else cells[i]?
 |[],k,cells,_=>⟨rfl,fun i=>by rw[if_neg (by simp)];rfl⟩
 |v::l,k,cells,h=>by
  simp only[List.zipIdx_cons,List.foldl_cons];simp at h;obtain⟨h1,h2⟩:=zHF off l (k+1) (cells.setIfInBounds (off+k) v) (by simp;omega);refine⟨by rw[h1];simp,fun i=>?_⟩;rw[h2 i]
  by_cases hi:i=off+k
  ·subst hi;rw[if_neg (by omega),if_pos (by simp)];simp [Array.getElem?_setIfInBounds];omega
  by_cases hio:off+(k+1)≤i∧i<off+(k+1)+l.length
  ·rw[if_pos hio,if_pos (by simp;omega)];have:i - (off+k)=i - (off+(k+1))+1:=by omega
   rw[this];simp
  rw[if_neg hio,if_neg (by simp;omega)];rw[Array.getElem?_setIfInBounds,if_neg (by omega)]
def VPs(γ:G)(g:Look):List (Nat×AV)→List (Nat×Value)→Prop
 |[],[]=>True
 |(i,x)::xs,(j,v)::vs=>i=j∧VR γ g x v∧VPs γ g xs vs
 |_,_=>False
theorem VPs.mono{γ γ':G}{g g':Look}(e:Ext γ g γ' g'):∀ {xs:List (Nat×AV)} {vs:List (Nat×Value)},VPs γ g xs vs→VPs γ' g' xs vs
 |[],[],_=>trivial
 |(_,_)::_,(_,_)::_,h=>⟨h.1,h.2.1.mono e,VPs.mono e h.2.2⟩
 |[],(_,_)::_,h=>h.elim
 |(_,_)::_,[],h=>h.elim
def zIG{γ:G}{g:Look}{T:Env}{a:Act}(h:ER γ g T a):∀(l:List (Nat×Operand)),VPs γ g (qA T l) (l.map fun(i,x)=>(i,a.eval x))
 |[]=>trivial
 |(_,x)::l=>⟨rfl,yC h x,zIG h l⟩
def zFv{γ:G}{g:Look}{T:Env}{a:Act}(h:ER γ g T a):∀(l:List Operand),VRs γ g (opds T l) (l.map a.eval)
 |[]=>.nil
 |x::l=>.cons (yC h x) (zFv h l)
def zJ5 {P:Program} {γ:G} {g:Look} {places:List (Nat×Nat)} {pl:Nat→Option (Nat×Nat)} (hpl:∀i p,places[i]?=some p→pl i=some p) :
  ∀ {parts:List (Nat×AV)} {ps:List (Nat×Value)} {cells r:List AV} {zs:Array Value},yE P places cells parts=some r→VPs γ g parts ps→VRs γ g cells zs.toList →
   ∃zs',Instr.fill pl zs ps=some zs'∧VRs γ g r zs'.toList
 |[],[],cells,r,zs,h,_,hz=>by simp [yE] at h;subst h;exact⟨zs,rfl,hz⟩
 |(i,x)::parts,(j,v)::ps,cells,r,zs,h,hp,hz=>by
  obtain⟨rfl,hv,hp⟩:=hp;unfold yE at h;split at h
  ·cases h
  rename_i off size hpi;split at h
  ·rename_i cs hcs;split at h
   ·rename_i hh;obtain⟨hl,hle⟩:=hh;have hvc:=zCf hcs hv;have hcl:=hvc.1;have hzl:=hz.1;simp at hcl hzl;rw[yP] at hpi;have hpl':=hpl i _ hpi;have hle':off+0+v.cells.toList.length≤zs.size:=by simp;omega
    obtain⟨f1,f2⟩:=zHF off v.cells.toList 0 zs hle';have hfold:v.cells.zipIdx.foldl (fun cs (c,j)=>cs.setIfInBounds (off+j) c) zs=(v.cells.toList.zipIdx 0).foldl (fun cs (c,j)=>cs.setIfInBounds (off+j) c) zs:=by
     rw[← Array.foldl_toList,Array.toList_zipIdx]
    have hsp:VRs γ g (splice cells off cs) ((v.cells.toList.zipIdx 0).foldl (fun cs (c,j)=>cs.setIfInBounds (off+j) c) zs).toList :=
     hz.splice hvc (by omega) f1 (fun i=>by simpa using f2 i)
    obtain⟨zs',g1,g2⟩:=zJ5 hpl h hp hsp;refine⟨zs',?_,g2⟩;unfold Instr.fill;simp only[hpl'];rw[if_neg (by simp;omega),hfold];exact g1
   cases h
  cases h
 |[],(_,_)::_,_,_,_,_,hp,_=>hp.elim
 |(_,_)::_,[],_,_,_,_,hp,_=>hp.elim
def zKS{P:Program}{w:World}:∀ {fields:List Field} {l:List (Nat×Nat)},zFz P fields=some l →
  (fields.mapM (fun f=>do pure (f.offset,← sizeOf f.type):Field→Sem (Nat×Nat))).run P w=.ok l w
 |[],l,h=>by simp [zFz] at h;subst h;simp
 |f::fs,l,h=>by
  unfold zFz at h;split at h
  ·cases h
  rename_i n hn;split at h
  ·cases h
  rename_i l' hl';cases h;have ih:=zKS (w:=w) hl';simp only[List.mapM_cons,Sem.run_bind,vR hn,Result.andThen_ok,Sem.run_pure,ih]
def zVi {P:Program} {γ:G} {g:Look} {w:World} {t:TypeId} {parts:List (Nat×AV)} {ps:Array (Nat×Value)} {v:AV} (h:HR γ g w) (hp:VPs γ g parts ps.toList)
  (hx:build P t parts=some v):Good γ g w [] v ((Instr.build t ps).run P w):=by
 unfold build at hx;split at hx
 ·cases hx
 rename_i zero hz;obtain⟨i,z,hi,hiz,hzv⟩:=zFw (γ:=γ) (g:=g) hz;split at hx
 ·rename_i fields hu;split at hx
  ·rename_i places hpl;simp only[Option.map_eq_some_iff] at hx;obtain⟨r,hr,rfl⟩:=hx;have hm:=zKS (w:=w) hpl;obtain⟨zs',f1,f2⟩:=zJ5 (pl:=(places.toArray[·]?)) (fun i p hh=>by simpa using hh) hr hp hzv;have hm':(fields.mapM (fun f=>do pure (f.offset,← sizeOf f.type):Field→Sem (Nat×Nat))).run P w=.ok places.toArray w:=by
    rw[Array.mapM_eq_mapM_toList,Sem.run_map,hm];rfl
   simp only[Instr.build,Sem.run_bind,zFD hi hiz,Result.andThen_ok,yQ hu,hm',f1,Sem.run_pure];have:=VR.mkAgg f2;exact .pure h (by simpa using this)
  cases hx
 ·rename_i n elem hu;split at hx
  ·rename_i size hs;simp only[Option.map_eq_some_iff] at hx;obtain⟨r,hr,rfl⟩:=hx;obtain⟨zs',f1,f2⟩:=zJ5 (pl:=fun i=>some (i * size,size)) (fun i p hh=>by
    rw[List.getElem?_map] at hh;cases hi:(List.range n)[i]? with
    |none=>rw[hi] at hh;cases hh
    |some k =>
     rw[hi] at hh;cases hh;rw[List.getElem?_range (by have:=zR hi;simpa using this)] at hi;cases hi;rfl) hr hp hzv
   simp only[Instr.build,Sem.run_bind,zFD hi hiz,Result.andThen_ok,yQ hu,vR hs,f1,Sem.run_pure];have:=VR.mkAgg f2;exact .pure h (by simpa using this)
  cases hx
 cases hx
structure Els (γ:G) (g:Look) (s:Nat) (es:List (List AV)) (c:Array Value):Prop where
 size:c.size=es.length * s
 len:∀e ∈ es,e.length=s
 val:∀(i j:Nat) e t v,es[i]?=some e→e[j]?=some t→c[i * s+j]?=some v→VR γ g t v∧v.oneCell'=true
def zJC:∀ {es:List (List AV)} {ts:List (List Tree)},qG es=some ts→es=ts.map (·.map .t)
 |[],ts,h=>by simp [qG] at h;subst h;rfl
 |e::es,ts,h=>by
  unfold qG at h;split at h
  ·cases h
  rename_i x hx;split at h
  ·cases h
  rename_i xs hxs;cases h;rw[zEW hx,zJC hxs];rfl
def zQq {γ:G} {g:Look} {w w':World} {nid s cap:Nat} {es:List (List AV)} {c:Array Value} {ty:TypeId} (hn:γ.β nid=none) (hg:g nid=none) (h:HR γ g w)
  (hw:w'.heap=w.heap.push (.cells c ty)) (hle:es.length≤cap) (hsz:c.size=cap * s) (hl:∀e ∈ es,e.length=s)
  (hc:∀(i j:Nat) e t v,es[i]?=some e→e[j]?=some t→c[i * s+j]?=some v→VR γ g t v∧v.oneCell'=true) (hso:w'.os=w.os∧w'.output=w.output:=by exact⟨rfl,rfl⟩) :
  Good γ g w [(nid,zAp s es)] (.hs nid 0) (.ok (.slice (some ⟨w.heap.size,0,none⟩) es.length cap) w'):=by
 unfold zAp;split
 ·rename_i ts hts;have:=zJC hts;subst this;have hlen:(ts.map (·.map AV.t)).length=ts.length:=by simp
  rw[hlen] at hle ⊢;refine zMt hn hg h hw (zBh _) (fun e he=>?_) hle hsz (fun i j e t v he ht hv=>?_) hso
  ·have:=hl (e.map .t) (List.mem_map.2 ⟨e,he,rfl⟩)
   simpa using this
  have:=hc i j (e.map .t) (.t t) v (by simp [he]) (by simp [ht]) hv;exact⟨this.1.of_tree,this.2⟩
 exact zWg hn hg h hw hl hle hsz (fun i j e t v a1 a2 a3=>(hc i j e t v a1 a2 a3).1) hso
def zJs {P:Program} {γ:G} {g:Look} {t:TypeId} {cs:List AV} (h:zC1 P t=some cs) :
  ∃i z,P.info? t=some i∧i.zero=some z∧VRs γ g cs z.cells.toList∧sizeOf? P t=some cs.length∧0<cs.length∧cs.all wO=true:=by
 unfold zC1 at h;split at h
 ·rename_i z n hz hn;split at h
  ·rename_i hh;cases h;obtain⟨i,zz,h1,h2,h3⟩:=zFw (γ:=γ) (g:=g) hz;exact⟨i,zz,h1,h2,h3,by rw[hn,hh.1],by omega,hh.2.2⟩
  cases h
 cases h
def zPk {γ:G} {g:Look} {zero:List AV} {zc:Array Value} (n m:Nat) (hz:VRs γ g zero zc.toList) (h1:zero.all wO=true) (hnm:n≤m) :
  ∀(i j:Nat) e t v,(List.replicate n zero)[i]?=some e→e[j]?=some t→((Array.range (m * zero.length)).map (zc[· % zc.size]!))[i * zero.length+j]?=some v→VR γ g t v∧v.oneCell'=true:=by
 intro i j e t v he ht hv;have hi:=zR he;simp at hi;rw[List.getElem?_replicate,if_pos hi] at he;cases he;have hj:=zR ht;have hzl:=hz.1;simp at hzl;have hlt:=xY (Nat.lt_of_lt_of_le hi hnm) (k:=j+1) (s:=zero.length) (by omega);rw[Array.getElem?_map,Array.getElem?_range,if_pos (by omega)] at hv;simp only[Option.map_some,Option.some.injEq] at hv;have hmod:(i * zero.length+j) % zc.size=j:=by
  rw[← hzl,Nat.mul_comm,Nat.mul_add_mod,Nat.mod_eq_of_lt hj]
 rw[hmod,getElem!_pos zc j (by omega)] at hv;have hvz:zc.toList[j]?=some v:=by rw[Array.getElem?_toList,Array.getElem?_eq_getElem (by omega),hv]
 exact⟨hz.2 j t v ht hvz,zGT hz h1 v (List.mem_of_getElem? hvz)⟩
def zIw{γ:G}{g:Look}{zero:List AV}:∀ {parts:List (Nat×AV)} {ps:List (Nat×Value)} {es r:List (List AV)} {c:Array Value},xV.go zero es parts=some r→VPs γ g parts ps →
  Els γ g zero.length es c→∃c',Instr.fill (fun i=>some (i * zero.length,zero.length)) c ps=some c'∧Els γ g zero.length r c'∧r.length=es.length
 |[],[],es,r,c,h,_,he=>by simp [xV.go] at h;subst h;exact⟨c,rfl,he,rfl⟩
 |(i,x)::parts,(j,v)::ps,es,r,c,h,hp,he=>by
  obtain⟨rfl,hv,hp⟩:=hp;unfold xV.go at h;split at h
  ·rename_i cs hcs;split at h
   ·rename_i hh;obtain⟨hi,hl,hic⟩:=hh;have hvc:=zCf hcs hv;have hcl:=hvc.1;simp at hcl;have hle:=xY hi (k:=zero.length) (s:=zero.length) (Nat.le_refl _);have hsz:=he.size;obtain⟨f1,f2⟩:=zHF (i * zero.length) v.cells.toList 0 c (by simp;omega);have hfold:v.cells.zipIdx.foldl (fun cs (c,j)=>cs.setIfInBounds (i * zero.length+j) c) c=(v.cells.toList.zipIdx 0).foldl (fun cs (c,j)=>cs.setIfInBounds (i * zero.length+j) c) c:=by
     rw[← Array.foldl_toList,Array.toList_zipIdx]
    have hels:Els γ g zero.length (setN es i cs) ((v.cells.toList.zipIdx 0).foldl (fun cs (c,j)=>cs.setIfInBounds (i * zero.length+j) c) c):=by
     rw[qP];refine⟨by rw[f1,hsz];simp,fun e hh=>?_,fun k j e t u a1 a2 a3=>?_⟩
     ·rcases List.mem_or_eq_of_mem_set hh with hh|hh
      ·exact he.len e hh
      rw[hh];exact hl
     rw[f2] at a3;rw[List.getElem?_set] at a1
     by_cases hk:i=k
     ·subst hk;rw[if_pos rfl,if_pos hi] at a1;cases a1;have hj:=zR a2;rw[if_pos (by simp;omega)] at a3;have hu':v.cells.toList[j]?=some u:=by rw[← a3];congr 1;omega
      exact⟨hvc.2 j t u a2 hu',zGT hvc hic u (List.mem_of_getElem? hu')⟩
     rw[if_neg hk] at a1;have hkl:=zR a1;have hel:=he.len e (List.mem_of_getElem? a1);have hj:=zR a2;have hout:¬ (i * zero.length+0≤k * zero.length+j∧k * zero.length+j<i * zero.length+0+v.cells.toList.length):=by
      simp only[Nat.add_zero,Array.length_toList];rcases Nat.lt_or_ge i k with hik|hik
      ·have:=xY hik (k:=zero.length) (s:=zero.length) (Nat.le_refl _);omega
      have hki:k<i:=by omega
      have:=xY hki (k:=j+1) (s:=zero.length) (by omega);omega
     rw[if_neg hout] at a3;exact he.val k j e t u a1 a2 a3
    obtain⟨c',g1,g2,g3⟩:=zIw h hp hels;refine⟨c',?_,g2,by rw[g3,qP];simp⟩;unfold Instr.fill;simp only;rw[if_neg (by simp;omega),hfold];exact g1
   cases h
  cases h
 |[],(_,_)::_,_,_,_,_,hp,_=>hp.elim
 |(_,_)::_,[],_,_,_,_,hp,_=>hp.elim
theorem kU.append{g:Look}{p q:Patch}(h:kU g p)(h':kU g q):kU g (p++q):=fun id o ho=>by
 rcases List.mem_append.1 ho with ho|ho
 ·exact h id o ho
 exact h' id o ho
def zCN(g:Look):∀(l:List (Nat×AV)),kU g (yV g l).2
 |[]=>fun _ _ h=>by cases h
 |(i,v)::l=>by
  simp only[yV];exact(uE g _).append (zCN g l)
def zNA {γ:G} {g:Look} {w:World} {xs:List (Nat×AV)} {vs:List (Nat×Value)} (h:HR γ g w) (hv:VPs γ g xs vs) :
  ∃ γ',Ext γ g γ' (upd g (yV g xs).2)∧HR γ' (upd g (yV g xs).2) w∧Fr γ w γ' w∧γ'.β=γ.β∧VPs γ' (upd g (yV g xs).2) (yV g xs).1 vs:=by
 obtain⟨γ',e,h',f,hb⟩:=zDx h (zCN g xs);refine⟨γ',e,h',f,hb,?_⟩;have key:∀(ys:List (Nat×AV)) (us:List (Nat×Value)),(∀x ∈ (yV g ys).2,x ∈ (yV g xs).2)→VPs γ g ys us→VPs γ' (upd g (yV g xs).2) (yV g ys).1 us:=by
  intro ys
  induction ys with
  |nil=>intro us _ hu;cases us with
   |nil=>trivial
   |cons u us=>exact hu.elim
  |cons y ys ih =>
   obtain⟨i,y⟩:=y;intro us hs hu;cases us with
   |nil=>exact hu.elim
   |cons u us =>
    obtain⟨j,u⟩:=u;obtain⟨rfl,hyu,hu⟩:=hu;simp only[yV] at hs ⊢;refine⟨rfl,zGF h' (fun id hid s ver frz es hg=>?_) (hyu.mono e),ih us (fun x hx=>hs x (List.mem_append_right _ hx)) hu⟩;exact(zCN g xs).upd_eq hg ⟨_,hs _ (List.mem_append_left _ (zDM hg hid))⟩
 exact key xs vs (fun _ hx=>hx) hv
def zD9{g:Look}{id:Nat}:∀ {p:Patch},(∀o,(id,o) ∉ p)→upd g p id=g id
 |[],_=>rfl
 |(i,o)::p,h=>by
  have hi:id≠i:=fun e=>h o (by rw[e];simp)
  simp only[upd];rw[zD9 (p:=p) (fun o' ho'=>h o' (List.mem_cons_of_mem _ ho'))];have:Nat.beq id i=false:=by
   cases hb:Nat.beq id i with
   |true=>exact absurd (Nat.eq_of_beq_eq_true hb) hi
   |false=>rfl
  simp [this]
theorem kU.upd_none{g:Look}{p:Patch}(h:kU g p){id:Nat}(hg:g id=none):upd g p id=none:=by
 rw[zD9 (fun o ho=>by obtain⟨s,ver,frz,es,h1,_⟩:=h id o ho;rw[hg] at h1;cases h1),hg]
theorem Good.after{γ γ':G}{g:Look}{w:World}{p q:Patch}{v:AV}{r:Result Value}(e:Ext γ g γ' (upd g p))(f:Fr γ w γ' w)(h:Good γ' (upd g p) w q v r):Good γ g w (p++q) v r:=by
 obtain⟨u,w',γ'',h1,h2,h3,h4,h5⟩:=h;refine⟨u,w',γ'',h1,?_,?_,?_,f.trans h5⟩
 ·rw[zAs];exact e.trans h2
 ·rw[zAs];exact h3
 rw[zAs];exact h4
def zMx {P:Program} {γ:G} {g:Look} {w:World} {nid:Nat} {t:TypeId} {n:Nat} {parts:List (Nat×AV)} {ps:Array (Nat×Value)} {v:AV} {p:Patch} (h:HR γ g w)
  (hn:γ.β nid=none) (hg:g nid=none) (hp:VPs γ g parts ps.toList) (hx:wI P g nid t n parts=some (.val v,p)):Good γ g w p v ((Instr.buildSlice t n ps).run P w):=by
 unfold wI at hx;split at hx
 ·rename_i elem hu;split at hx
  ·rename_i zero hz;obtain⟨γ',e,h',f,hb,hv'⟩:=zNA h hp;obtain⟨i,z,hi,hiz,hzv,hsz,hpos,hzc⟩:=zJs (γ:=γ') (g:=upd g (yV g parts).2) hz;split at hx
   ·cases hx
   rename_i hbig;split at hx
   ·rename_i es hes;cases hx;refine .after e f ?_;have hzl:=hzv.1;simp at hzl;obtain⟨c',f1,f2,f3⟩:=zIw (c:=(Array.range (n * zero.length)).map (z.cells[· % z.cells.size]!)) hes hv'
     ⟨by simp,fun x hx=>by rw[(List.mem_replicate.1 hx).2],zPk n n hzv hzc (Nat.le_refl _)⟩
    have hlen:es.length=n:=by simpa using f3
    simp only[Instr.buildSlice,Sem.run_bind,yQ hu,Result.andThen_ok,vR hsz];rw[if_neg (by omega)];have hgood:=zQq (ty:=elem) (w:=w) (nid:=nid) (by rw[hb];exact hn) ((zCN g parts).upd_none hg) h' (w':={ w with heap:=w.heap.push (.cells c' elem) }) rfl
     (cap:=es.length) (Nat.le_refl _) f2.size f2.len f2.val
    rw[hlen] at hgood
    by_cases h0:n * zero.length=0
    ·have hempty:∀F:Nat→Value,(Array.range (n * zero.length)).map F=#[]:=fun F=>by rw[h0];simp
     rw[hempty] at f1;rw[if_pos h0];simp only[Sem.run_bind,Sem.run_pure,Result.andThen_ok,hempty,f1,newRow,run_newObj];exact hgood
    rw[if_neg h0];simp only[Sem.run_bind,zFD hi hiz,Sem.run_pure,Result.andThen_ok,f1,newRow,run_newObj];exact hgood
   cases hx
  cases hx
 cases hx
def zNB {P:Program} {γ:G} {g:Look} {w:World} {nid:Nat} {t:TypeId} {l c v:AV} {ul uc:Value} {p:Patch} (h:HR γ g w) (hn:γ.β nid=none) (hg:g nid=none)
  (hl:VR γ g l ul) (hc:VR γ g c uc) (hx:zAt P nid t l c=some (.val v,p)):Good γ g w p v ((Instr.makeSlice t ul uc).run P w):=by
 unfold zAt at hx;split at hx
 ·rename_i elem k1 l k2 c hu;split at hx
  ·rename_i zero hz;split at hx
   ·rename_i hh;obtain⟨hlc,hor,hsm⟩:=hh;cases hx;have hlt:=hl.of_tree;have hct:=hc.of_tree;cases hlt;cases hct;obtain⟨i,z,hi,hiz,hzv,hsz,hpos,hzc⟩:=zJs (γ:=γ) (g:=g) hz;obtain⟨i',hi',hsi⟩:=zId hsz;rw[hi] at hi';cases hi';have hsmall:i.bytes≤8192∧c<4294967296:=by
     unfold small at hsm;split at hsm
     ·rename_i i2 hi2;have:=zDU hi2;rw[hi] at this;cases this;simp at hsm;exact hsm.1
     cases hsm
    have hbytes:i.bytes * c≤8192 * 4294967296:=Nat.mul_le_mul hsmall.1 (by omega);have hrun:=run_make (P:=P) w t elem i z (wZ hu) hi hiz k1 k2 (Int.ofNat l) (Int.ofNat c) (by simp) (by simpa using hlc) (by
     have:((i.bytes:Int) * (Int.ofNat c))=((i.bytes * c:Nat):Int):=by simp
     rw[this];omega) (by simp;omega)
    simp only[Int.ofNat_eq_natCast,Int.toNat_natCast] at hrun;simp only[Int.ofNat_eq_natCast];rw[hrun];have hzl:=hzv.1;simp at hzl;have:=zQq (ty:=elem) (w:=w) (nid:=nid) hn hg h (w':=w.alloc (.cells (madeCells z.cells (c * i.size)) elem)) rfl (es:=List.replicate l zero) (cap:=c) (s:=zero.length)
     (by simpa using hlc) (by simp [madeCells,hsi]) (fun e he=>by rw[(List.mem_replicate.1 he).2]) (by
      have:=zPk l c hzv hzc hlc;rw[hsi];exact this)
    simpa using this
   cases hx
  cases hx
 cases hx
def BO(b:Option Int)(u:Option Value):Prop:=(b=none∧u=none)∨∃k n,b=some n∧u=some (.int k n)
def zJP{γ:G}{g:Look}{T:Env}{a:Act}(h:ER γ g T a){x:Option Operand}{b:Option Int}(hb:bound T x=some b):BO b (x.map a.eval):=by
 unfold bound at hb;cases x with
 |none=>cases hb;exact .inl ⟨rfl,rfl⟩
 |some x =>
  simp only at hb;split at hb
  ·rename_i k n ho;cases hb;have:=yC h x;rw[ho] at this;have:=this.of_tree;generalize he:a.eval x=u at this;cases this;exact .inr ⟨k,n,rfl,by simp [he]⟩
  cases hb
def jX{P:Program}{w:World}{k:IntKind}{i:Int}{y:Nat}{c:BoundsCode}(h:0≤i∧i≤y):(Instr.sliceBound (.int k i) y c).run P w=.ok i.toNat w:=by
 simp only[Instr.sliceBound,asIntOf,Sem.run_bind,Sem.run_pure,Result.andThen_ok];rw[if_pos h]
 rfl
def kS {P:Program} {w:World} {iss:Bool} {len cap:Nat} {lo hi mx:Option Int} {ul uh um:Option Value} (hlo:BO lo ul) (hhi:BO hi uh) (hmx:BO mx um)
  (hlc:len≤cap) (hm:∀m,mx=some m→hi=some m∧0≤m∧m≤cap) (h1:0≤lo.getD 0) (h2:lo.getD 0≤hi.getD len) (h3:hi.getD len≤len) :
  (Instr.sliceBounds iss len cap ul uh um).run P w=.ok ((lo.getD 0).toNat,(hi.getD len).toNat,(mx.getD cap).toNat) w:=by
 unfold Instr.sliceBounds;rcases hmx with ⟨rfl,rfl⟩|⟨km,m,rfl,rfl⟩
 ·simp only[Sem.run_bind,Sem.run_pure,Result.andThen_ok];rcases hhi with ⟨rfl,rfl⟩|⟨kh,hh,rfl,rfl⟩
  ·rcases hlo with ⟨rfl,rfl⟩|⟨kl,l,rfl,rfl⟩
   ·simp
   simp at h1 h2 ⊢;rw[jX ⟨h1,h2⟩];simp
  simp at h1 h2 h3 ⊢;rw[jX ⟨by omega,by omega⟩];simp only[Result.andThen_ok];rcases hlo with ⟨rfl,rfl⟩|⟨kl,l,rfl,rfl⟩
  ·simp
  simp at h1 h2 ⊢;rw[jX ⟨h1,by omega⟩];simp
 obtain⟨hh,h0,hc⟩:=hm m rfl;subst hh;simp at h1 h2 h3;rcases hhi with ⟨hh,_⟩|⟨kh,hh,he,rfl⟩
 ·cases hh
 cases he;simp only[Sem.run_bind];rw[jX ⟨h0,hc⟩];simp only[Result.andThen_ok];rw[jX ⟨h0,by omega⟩];simp only[Result.andThen_ok];rcases hlo with ⟨rfl,rfl⟩|⟨kl,l,rfl,rfl⟩
 ·simp
 simp at h1 h2 ⊢;rw[jX ⟨h1,by omega⟩];simp
def zJA(s:List Nat)(l h:Nat):(mkS s).extract l h=mkS ((s.take h).drop l):=by
 apply ByteArray.ext;simp [mkS,ByteArray.data_extract,List.extract_eq_take_drop,List.map_take,List.map_drop,List.drop_take]
def zEN{α:Type}(es:List α)(l h i:Nat)(x:α)(hx:((es.take h).drop l)[i]?=some x):es[l+i]?=some x:=by
 rw[List.getElem?_drop] at hx;have hi:=zR hx;simp at hi;rw[List.getElem?_take_of_lt (by omega)] at hx;exact hx
def zKW{I:Imm}{nl clip:Bool}{es:List (List Tree)}{u:Value}{n:Nat}(h:TR I (.sl nl clip es) u)(hh:kP n es=true):∀e ∈ es,e.length=n:=by
 cases h with
 |sl _ _ _ a cap s val h0 h1 h2 h3 h4 h5 h6 =>
  cases es with
  |nil=>intro e he;cases he
  |cons e0 es =>
   simp only[kP] at hh;have hn:=Nat.eq_of_beq_eq_true hh;have hs:=h2 e0 (by simp);intro e he;rw[h2 e he,← hs,hn]
def zUk {P:Program} {γ:G} {g:Look} {w:World} {t:TypeId} {x v:AV} {u:Value} {lo hi mx:Option Int} {ul uh um:Option Value} (h:HR γ g w) (hv:VR γ g x u)
  (hlo:BO lo ul) (hhi:BO hi uh) (hmx:BO mx um) (hx:slice P g t x lo hi mx=some v):Good γ g w [] v ((Instr.sliceAt t u ul uh um).run P w):=by
 unfold slice at hx;split at hx
 ·rename_i s hu;dsimp only at hx;split at hx
  ·rename_i hh;obtain⟨hm,h1,h2,h3⟩:=hh;cases hx;obtain⟨rfl,hb⟩:=hv.of_tree.str_inv;have hmn:mx=none:=by simpa using hm
   subst hmn;have hum:um=none:=by rcases hmx with ⟨_,hh⟩|⟨_,_,hh,_⟩;exact hh;cases hh
   subst hum;have hrun:=kS (P:=P) (w:=w) (iss:=false) (len:=s.length) (cap:=s.length) hlo hhi (.inl ⟨rfl,rfl⟩) (Nat.le_refl _) (fun m hm=>by cases hm) h1 h2 h3;simp only[Instr.sliceAt,Instr.slice,Sem.run_bind,yQ hu,Result.andThen_ok,Option.isSome_none,Bool.false_eq_true,if_false,zAx,hrun,Sem.run_pure];rw[zJA];exact .pure h (.t _ _ (.mkS fun b hbm=>hb b (List.mem_of_mem_take (List.mem_of_mem_drop hbm))))
  cases hx
 ·rename_i elem nl clip es hu;split at hx
  ·rename_i n hn;dsimp only at hx;split at hx
   ·rename_i hh;obtain⟨h1,h2,h3,hhl⟩:=hh;have hlen:=zKW hv.of_tree hhl;have hvt:=hv.of_tree;cases hvt with
    |sl _ _ _ a cap s val g0 g1 g2 g3 g4 g5 g6 =>
     have hm:∀m,mx=some m→m=hi.getD es.length→m≤cap∧0≤m:=fun m _ hmm=>by omega
     have hes:∀e ∈ es,s=n:=fun e he=>by rw[← g2 e he];exact hlen e he
     -- the new slice,whatever its capacity
     have key:∀(clip':Bool) (m:Nat),(hi.getD es.length).toNat≤m→m≤cap→(clip'=true→m - (lo.getD 0).toNat=(hi.getD es.length).toNat - (lo.getD 0).toNat) →
       TR γ.imm (.sl nl clip' ((es.take (hi.getD es.length).toNat).drop (lo.getD 0).toNat))
        (.slice (if m=(lo.getD 0).toNat then a else a.map (·.add ((lo.getD 0).toNat * n))) ((hi.getD es.length).toNat - (lo.getD 0).toNat) (m - (lo.getD 0).toNat)):=by
      intro clip' m hhm hmc hcl;have hl':((es.take (hi.getD es.length).toNat).drop (lo.getD 0).toNat).length=(hi.getD es.length).toNat - (lo.getD 0).toNat:=by simp;omega
      rw[← hl'];refine .sl nl clip' _ _ (m - (lo.getD 0).toNat) s (fun i j=>val ((lo.getD 0).toNat+i) j) (fun hnl=>?_) (fun hnl=>?_) (fun e he=>?_) (fun i j e c he hc=>?_) (by rw[hl'];omega) (fun hc=>by rw[hl'];exact hcl hc) (fun i j e c he hc=>g6 _ j e c (zEN es _ _ i e he) hc)
      ·obtain⟨ha,he,hc⟩:=g0 hnl;subst ha;subst he;subst hc;refine⟨by split<;>rfl,by simp,by omega⟩
      ·obtain⟨hne,b,o,ha,hc⟩:=g1 hnl;refine⟨?_,b,o+(lo.getD 0).toNat * s,fun hee=>?_,fun i j e c he hcc=>?_⟩
       ·split
        ·exact hne
        cases a with
        |none=>exact absurd rfl hne
        |some a=>simp
       ·have hpos:0<((es.take (hi.getD es.length).toNat).drop (lo.getD 0).toNat).length:=List.length_pos_iff.2 hee;rw[hl'] at hpos;have hene:es≠[]:=fun hh=>by rw[hh] at hee;simp at hee
        rw[if_neg (by omega),ha hene];obtain⟨e0,he0⟩:=List.exists_mem_of_ne_nil es hene;rw[← hes e0 he0];simp [vS]
       have:=hc _ j e c (zEN es _ _ i e he) hcc;rw[Nat.add_mul] at this;rw[← this];congr 1;omega
      ·exact g2 e (List.mem_of_mem_take (List.mem_of_mem_drop he))
      exact g3 _ j e c (zEN es _ _ i e he) hc
     split at hx
     ·cases hx;have hum:um=none:=by rcases hmx with ⟨_,hh⟩|⟨_,_,hh,_⟩;exact hh;cases hh
      subst hum;have hrun:=kS (P:=P) (w:=w) (iss:=true) (len:=es.length) (cap:=cap) hlo hhi (.inl ⟨rfl,rfl⟩) g4 (fun m hm=>by cases hm) h1 h2 h3;simp only[Instr.sliceAt,Instr.slice,Sem.run_bind,yQ hu,Result.andThen_ok,hrun,vR hn,Sem.run_pure,Option.getD_none,Int.toNat_natCast];refine .pure h (.t _ _ (key _ cap (by omega) (Nat.le_refl _) fun hc=>?_));simp only[Bool.and_eq_true,beq_iff_eq] at hc;have:=g5 hc.1;omega
     rename_i m;split at hx
     ·rename_i hmh;cases hx;obtain⟨hmh,hsome⟩:=hmh;subst hmh;obtain⟨hmc,hm0⟩:=hm _ rfl rfl;have hhs:hi=some (hi.getD es.length):=by
       cases hi with
       |none=>cases hsome
       |some hv=>rfl
      have hrun:=kS (P:=P) (w:=w) (iss:=true) (len:=es.length) (cap:=cap) hlo hhi hmx g4 (fun m hm=>by cases hm;exact⟨hhs,hm0,hmc⟩) h1 h2 h3;simp only[Instr.sliceAt,Instr.slice,Sem.run_bind,yQ hu,Result.andThen_ok,hrun,vR hn,Sem.run_pure,Option.getD_some];exact .pure h (.t _ _ (key true (hi.getD es.length).toNat (Nat.le_refl _) (by omega) fun _=>rfl))
     cases hx
   cases hx
  cases hx
 ·rename_i elem id ver hu;split at hx
  ·rename_i s ver' frz es n hg hn;dsimp only at hx;split at hx
   ·rename_i hh;obtain⟨rfl,rfl,h1,h2,h3⟩:=hh;cases hv with
    |hs _ _ a len cap ho hh =>
     obtain⟨b,s',hb,hd,rfl,hle,hsz⟩:=hh (kR hg);rw[vU hg] at hd;cases hd;split at hx
     ·cases hx;have hum:um=none:=by rcases hmx with ⟨_,hh⟩|⟨_,_,hh,_⟩;exact hh;cases hh
      subst hum;have hrun:=kS (P:=P) (w:=w) (iss:=true) (len:=es.length) (cap:=cap) hlo hhi (.inl ⟨rfl,rfl⟩) hle (fun m hm=>by cases hm) h1 h2 h3;simp only[Instr.sliceAt,Instr.slice,Sem.run_bind,yQ hu,Result.andThen_ok,hrun,vR hn,Sem.run_pure,Option.getD_none,Int.toNat_natCast];refine .pure h ?_;split
      ·rename_i hcl;exact .hsub id ver _ _ _ _ ho fun _=>⟨b,s,es.length,hb,vU hg,by omega,by omega,fun hne=>by omega⟩
      simp only[Option.map_some];exact .hsub id ver _ _ _ _ ho fun _=>⟨b,s,es.length,hb,vU hg,by omega,by omega,fun hne=>by rw[vS];simp⟩
     rename_i m;split at hx
     ·rename_i hmh;cases hx;obtain⟨rfl,hhl,hsome⟩:=hmh;have hhs:hi=some (hi.getD es.length):=by
       cases hi with
       |none=>cases hsome
       |some hv=>rfl
      have hrun:=kS (P:=P) (w:=w) (iss:=true) (len:=es.length) (cap:=cap) hlo hhi hmx hle (fun m hm=>by cases hm;exact⟨hhs,by omega,by omega⟩) h1 h2 h3;simp only[Instr.sliceAt,Instr.slice,Sem.run_bind,yQ hu,Result.andThen_ok,hrun,vR hn,Sem.run_pure,Option.getD_some];refine .pure h (.t _ _ ?_);rw[if_pos (by omega)];have e1:(hi.getD es.length).toNat - (lo.getD 0).toNat=([]:List (List Tree)).length:=by simp;omega
      rw[e1];exact .sl false true [] (some _) _ 0 (fun _ _=>undef) (fun hh=>by cases hh) (fun _=>⟨by simp,0,0,fun hh=>absurd rfl hh,fun _ _ _ _ he=>by simp at he⟩) (fun _ he=>by cases he)
       (fun _ _ _ _ he=>by simp at he) (Nat.zero_le _) (fun _=>rfl) (fun _ _ _ _ he=>by simp at he)
     cases hx
   cases hx
  cases hx
 ·rename_i elem id ver lo0 len hu;split at hx
  ·rename_i s ver' frz es n hg hn;dsimp only at hx;split at hx
   ·rename_i hh;obtain⟨rfl,rfl,hle0,h1,h2,h3,hm⟩:=hh;cases hx;have hmn:mx=none:=by simpa using hm
    subst hmn;have hum:um=none:=by rcases hmx with ⟨_,hh⟩|⟨_,_,hh,_⟩;exact hh;cases hh
    subst hum;cases hv with
    |hsub _ _ _ _ a cap ho hh =>
     obtain⟨b,s',n',hb,hd,hlc,hlo',ha⟩:=hh (kR hg);rw[vU hg] at hd;cases hd;have hrun:=kS (P:=P) (w:=w) (iss:=true) (len:=len) (cap:=cap) hlo hhi (.inl ⟨rfl,rfl⟩) hlc (fun m hm=>by cases hm) h1 h2 h3;simp only[Instr.sliceAt,Instr.slice,Sem.run_bind,yQ hu,Result.andThen_ok,hrun,vR hn,Sem.run_pure,Option.getD_none,Int.toNat_natCast];refine .pure h ?_;split
     ·rename_i hcl;exact .hsub id ver _ _ _ _ ho fun _=>⟨b,s,es.length,hb,vU hg,by omega,by omega,fun hne=>by omega⟩
     simp only[Option.map_some];refine .hsub id ver _ _ _ _ ho fun _=>⟨b,s,es.length,hb,vU hg,by omega,by omega,fun hne=>?_⟩
     rw[ha (by omega),vS,Nat.add_mul]
   cases hx
  cases hx
 cases hx
def zNe{n:Nat}{es:List (List Tree)}(h:lens n es=true):∀e ∈ es,e.length=n:=fun e he =>
 Nat.eq_of_beq_eq_true (List.all_eq_true.1 h e he)
structure Flat (I:Imm) (n:Nat) (es:List (List Tree)) (vs:List Value):Prop where
 len:vs.length=es.length * n
 val:∀(i j:Nat) e t,es[i]?=some e→e[j]?=some t→∃v,vs[i * n+j]?=some v∧TR I t v∧v.oneCell'=true
 one:∀v ∈ vs,v.oneCell'=true
def zN0{n k:Nat}{es:List (List Tree)}(h:k<es.length * n):k / n<es.length∧k % n<n∧k / n * n+k % n=k:=by
 have hn:0<n:=Nat.pos_of_ne_zero fun h0=>by rw[h0] at h;simp at h
 exact⟨Nat.div_lt_of_lt_mul (by rw[Nat.mul_comm];exact h),Nat.mod_lt _ hn,by rw[Nat.mul_comm];exact Nat.div_add_mod k n⟩
theorem Flat.mk' {I:Imm} {n:Nat} {es:List (List Tree)} {vs:List Value} (hn:∀e ∈ es,e.length=n) (len:vs.length=es.length * n)
  (val:∀(i j:Nat) e t,es[i]?=some e→e[j]?=some t→∃v,vs[i * n+j]?=some v∧TR I t v∧v.oneCell'=true):Flat I n es vs:=by
 refine⟨len,val,fun v hv=>?_⟩;obtain⟨k,hk⟩:=List.getElem?_of_mem hv;have hkl:=zR hk;rw[len] at hkl;obtain⟨h1,h2,h3⟩:=zN0 hkl;have he:es[k / n]?=some es[k / n]:=List.getElem?_eq_getElem h1;have hel:=hn _ (List.mem_of_getElem? he);have ht:(es[k / n])[k % n]?=some ((es[k / n])[k % n]'(by omega)):=List.getElem?_eq_getElem (by omega);obtain⟨v',h4,h5,h6⟩:=val _ _ _ _ he ht;rw[h3,hk] at h4;cases h4;exact h6
theorem Flat.append{I:Imm}{n:Nat}{es fs:List (List Tree)}{vs us:List Value}(hn:∀e ∈ es,e.length=n)(hn':∀e ∈ fs,e.length=n)(h:Flat I n es vs)(h':Flat I n fs us):Flat I n (es++fs) (vs++us):=by
 refine .mk' (fun e he=>?_) (by simp [h.len,h'.len,Nat.add_mul]) fun i j e t he ht=>?_
 ·rcases List.mem_append.1 he with he|he
  ·exact hn e he
  exact hn' e he
 by_cases hi:i<es.length
 ·rw[List.getElem?_append_left hi] at he;obtain⟨v,h1,h2⟩:=h.val i j e t he ht;exact⟨v,by rw[List.getElem?_append_left (zR h1)];exact h1,h2⟩
 rw[List.getElem?_append_right (by omega)] at he;obtain⟨v,h1,h2⟩:=h'.val (i - es.length) j e t he ht;refine⟨v,?_,h2⟩;have hm:es.length * n≤i * n:=Nat.mul_le_mul_right n (by omega);rw[List.getElem?_append_right (by rw[h.len];omega),h.len];rw[Nat.sub_mul] at h1;rw[← h1];congr 1;omega
def zEf {γ:G} {g:Look} {w:World} {x:AV} {u:Value} {es:List (List Tree)} {n:Nat} (h:HR γ g w) (hx:elems g x=some es) (hv:VR γ g x u) (hn:∀e ∈ es,e.length=n) :
  ∃a cap vs,u=.slice a es.length cap∧es.length≤cap∧Flat γ.imm n es vs∧∀(j:Nat) v,vs[j]?=some v→∃b o,a=some ⟨b,o,none⟩∧w.cell? ⟨b,o+j,none⟩=some v:=by
 have arr:∀(id s ver lo len:Nat) (frz:Bool) (es0:List (List Tree)) (b:Nat),g id=some (.arr s ver frz es0)→γ.β id=some b→cut es0 lo len=some es →
   ∃vs,Flat γ.imm n es vs∧∀(j:Nat) v,vs[j]?=some v→len≠0∧w.cell? ⟨b,lo * s+j,none⟩=some v:=by
  intro id s ver lo len frz es0 b hg hb hc;obtain⟨o,ho,hor⟩:=h.obj id b hb;rw[hg] at ho;cases ho;obtain⟨⟨c,ty,fr,h1,h2,h3,h4,h5,h6,h7⟩,_⟩:=hor;have hlen:=vL hc;have hcs:=zAv hc;have hget:∀(i:Nat) e,es[i]?=some e→es0[lo+i]?=some e:=fun i e he=>by
   have hi:i<len:=by have:=zR he;omega
   rw[zDY hc hi] at he;exact he
  by_cases he:es=[]
  ·subst he;exact⟨[],.mk' hn (by simp) (fun _ _ _ _ hh=>by simp at hh),fun j v hj=>by simp at hj⟩
  obtain⟨e0,he0⟩:=List.exists_mem_of_ne_nil es he;obtain⟨i0,hi0⟩:=List.getElem?_of_mem he0;have hsn:s=n:=by rw[← hn e0 he0,h5 e0 (List.mem_of_getElem? (hget i0 e0 hi0))]
  subst hsn;have hbig:(lo+len) * s≤es0.length * s:=Nat.mul_le_mul_right s hcs.1;rw[Nat.add_mul] at hbig;refine⟨(c.toList.drop (lo * s)).take (len * s),.mk' hn (by simp [hlen];omega) (fun i j e t hie hjt=>?_),fun j v hj=>?_⟩
  ·have hi:i<len:=by have:=zR hie;omega
   have hjl:j<s:=by have:=zR hjt;rw[hn e (List.mem_of_getElem? hie)] at this;exact this
   have hlt:=xY hi (k:=j+1) (s:=s) (by omega);have hval:c[(lo+i) * s+j]?=some (c[(lo+i) * s+j]'(by rw[Nat.add_mul];omega)):=Array.getElem?_eq_getElem _;refine⟨_,?_,h6 (lo+i) j e t _ (hget i e hie) hjt hval⟩;rw[List.getElem?_take_of_lt (by omega),List.getElem?_drop,Array.getElem?_toList,← hval]
   congr 1;rw[Nat.add_mul];omega
  have hjl:j<len * s:=by have:=zR hj;simp at this;omega
  rw[List.getElem?_take_of_lt hjl,List.getElem?_drop,Array.getElem?_toList] at hj;exact⟨fun h0=>by rw[h0] at hjl;simp at hjl,by rw[zCd h1];exact hj⟩
 cases x with
 |t x =>
  obtain⟨nl,clip,rfl⟩:∃nl clip,x=.sl nl clip es:=by
   cases x<;>simp only[elems,reduceCtorEq,Option.some.injEq] at hx
   subst hx;exact⟨_,_,rfl⟩
  have hvt:=hv.of_tree;cases hvt with
  |sl _ _ _ a cap s val h0 h1 h2 h3 h4 h5 h6 =>
   by_cases he:es=[]
   ·subst he;exact⟨a,cap,[],rfl,h4,.mk' hn (by simp) (fun _ _ _ _ hh=>by simp at hh),fun j v hj=>by simp at hj⟩
   have hnl:nl=false:=by
    cases nl with
    |false=>rfl
    |true=>exact absurd (h0 rfl).2.1 he
   obtain⟨_,b,o,ha,hc⟩:=h1 hnl;have ha:=ha he;subst ha;obtain⟨e0,he0⟩:=List.exists_mem_of_ne_nil es he;have hsn:s=n:=by rw[← hn e0 he0,h2 e0 he0]
   subst hsn;refine⟨_,cap,(List.range (es.length * s)).map fun k=>val (k / s) (k % s),rfl,h4,.mk' hn (by simp) (fun i j e t hie hjt=>?_),fun k v hk=>⟨b,o,rfl,?_⟩⟩
   ·have hi:=zR hie;have hj:j<s:=by have:=zR hjt;rw[hn e (List.mem_of_getElem? hie)] at this;exact this
    have hlt:=xY hi (k:=j+1) (s:=s) (by omega);refine⟨val i j,?_,h3 i j e t hie hjt,h6 i j e t hie hjt⟩;rw[List.getElem?_map,List.getElem?_range (by omega)];have e1:(i * s+j) / s=i:=by rw[Nat.mul_comm,Nat.mul_add_div (by omega),Nat.div_eq_of_lt hj];rfl
    have e2:(i * s+j) % s=j:=by rw[Nat.mul_comm,Nat.mul_add_mod,Nat.mod_eq_of_lt hj]
    simp [e1,e2]
   have hkl:=zR hk;simp at hkl;rw[List.getElem?_map,List.getElem?_range hkl] at hk;simp at hk;subst hk;obtain⟨g1,g2,g3⟩:=zN0 hkl;have hee:es[k / s]?=some es[k / s]:=List.getElem?_eq_getElem g1;have hel:=hn _ (List.mem_of_getElem? hee);have htt:(es[k / s])[k % s]?=some ((es[k / s])[k % s]'(by omega)):=List.getElem?_eq_getElem (by omega);have:=h.imm _ _ _ (hc _ _ _ _ hee htt);rw[Nat.add_assoc,g3] at this;exact this
 |hs id ver =>
  obtain⟨s,frz,hg⟩:=zJN hx;cases hv with
  |hs _ _ a len cap ho hh =>
   obtain⟨b,s',hb,hd,rfl,hle,hsz⟩:=hh (kR hg);rw[vU hg] at hd;cases hd;obtain⟨vs,f1,f2⟩:=arr id s ver 0 es.length frz es b hg hb (zQ0 es);exact⟨_,cap,vs,rfl,hle,f1,fun j v hj=>⟨b,0,rfl,by have:=(f2 j v hj).2;simpa using this⟩⟩
 |hsub id ver lo len =>
  obtain⟨s,frz,es0,hg,hc⟩:=zHi hx;cases hv with
  |hsub _ _ _ _ a cap ho hh =>
   obtain⟨b,s',n',hb,hd,hlc,hlo,ha⟩:=hh (kR hg);rw[vU hg] at hd;cases hd;have hl:=vL hc;obtain⟨vs,f1,f2⟩:=arr id s ver lo len frz es0 b hg hb hc;exact⟨some a,cap,vs,by rw[hl],by omega,f1,fun j v hj=>⟨b,lo * s,by rw[ha (f2 j v hj).1],(f2 j v hj).2⟩⟩
 |_=>simp [elems] at hx
def zCE(s:List Nat):∀e ∈ byteCells s,e.length=1:=fun e he=>by
 unfold byteCells at he;obtain⟨b,_,rfl⟩:=List.mem_map.1 he
 rfl
def zLs(I:Imm)(s:List Nat):Flat I 1 (byteCells s) (s.map fun b:Nat=>Value.int .u8 (b:Int)):=by
 refine .mk' (zCE s) (by simp [byteCells]) fun i j e t he ht=>?_
 unfold byteCells at he;rw[List.getElem?_map] at he;cases hb:s[i]? with
 |none=>rw[hb] at he;cases he
 |some b =>
  rw[hb] at he;cases he;have hj:j=0:=by have:=zR ht;simp at this;exact this
  subst hj;cases ht;exact⟨.int .u8 b,by simp [hb],.int _ _,rfl⟩
def zNa{s:List Nat}(h:∀b ∈ s,b<256):((mkS s).data.map fun b=>Value.int .u8 b.toNat)=(s.map fun b:Nat=>Value.int .u8 (b:Int)).toArray:=by
 apply Array.ext';simp only[mkS,Array.toList_map,List.map_map];apply List.map_congr_left;intro b hb;simp [UInt8.toNat_ofNat',Nat.mod_eq_of_lt (h b hb)]
def zGj {P:Program} {γ:G} {g:Look} {w:World} {x:AV} {u:Value} {new:List (List Tree)} {n:Nat} (h:HR γ g w) (hx:added g x=some new) (hv:VR γ g x u) (hn:∀e ∈ new,e.length=n) :
  (∀w':World,(Builtin.lenOf u).run P w'=.ok new.length w')∧∃vs,Flat γ.imm n new vs ∧
   ∀w':World,(∀b o,w'.cell? ⟨b,o,none⟩=w.cell? ⟨b,o,none⟩)→(Builtin.firstCells n new.length u).run P w'=.ok vs.toArray w':=by
 unfold added at hx;split at hx
 ·rename_i s;cases hx;obtain⟨rfl,hb⟩:=hv.of_tree.str_inv;refine⟨fun w'=>by simp [Builtin.lenOf,zAx,byteCells],s.map fun b:Nat=>Value.int .u8 (b:Int),?_,fun w' _=>?_⟩
  ·by_cases h0:s=[]
   ·subst h0;exact .mk' hn (by simp [byteCells]) (fun _ _ _ _ hh=>by simp [byteCells] at hh)
   obtain⟨e,he⟩:=List.exists_mem_of_ne_nil (byteCells s) (by unfold byteCells;simpa using h0);have:n=1:=by rw[← hn e he,zCE s e he]
   subst this;exact zLs _ s
  have hl:(byteCells s).length=s.length:=by simp [byteCells]
  simp only[Builtin.firstCells,hl,Sem.run_pure];rw[zJA,List.take_length,List.drop_zero,zNa hb]
 obtain⟨a,cap,vs,rfl,hle,f1,f2⟩:=zEf h hx hv hn;refine⟨fun w'=>rfl,vs,f1,fun w' hw=>?_⟩;cases a with
 |none =>
  have:vs=[]:=by
   cases vs with
   |nil=>rfl
   |cons v vs=>obtain⟨b,o,hh,_⟩:=f2 0 v rfl;cases hh
  subst this;exact run_firstCells_none w' _ _ _ _
 |some a =>
  refine run_firstCells_some w' n new.length a new.length cap vs f1.len fun j v hj=>?_
  obtain⟨b,o,ha,hc⟩:=f2 j v hj;cases ha;rw[vS,hw];exact hc
def zKu{P:Program}{t:TypeId}{n:Nat}(h:small P t n=true):∃i z,P.info? t=some i∧i.bytes≤8192∧n<4294967296∧i.zero=some z∧z.cells.size=i.size:=by
 unfold small at h;split at h
 ·rename_i i hi;simp at h;obtain⟨⟨h1,h2⟩,h3⟩:=h;unfold zO5 at h3;split at h3
  ·rename_i z hz;exact⟨i,z,zDU hi,h1,h2,hz,by have:=Nat.eq_of_beq_eq_true h3;simpa using this⟩
  cases h3
 cases h
def zKX{P:Program}{t:TypeId}(h:yD P t=true):∃d,und P t=some d∧(∀k,d≠.int k):=by
 unfold yD at h;split at h
 ·cases h
 ·rename_i d h1 hd;exact⟨d,hd,fun k hk=>by subst hk;exact h1 k rfl⟩
 cases h
def zGn(w:World)(need old:Nat)(e:TypeId):need≤grownCap w need old e:=by
 unfold grownCap Question.cut;exact Nat.le_add_right _ _
def zOE {P:Program} {w:World} {t t' ty elem:TypeId} {n m sLen sCap:Nat} {base:Option Addr} {ux:Value} {i:TypeInfo} {z:Value} {olds news:List Value} (hu:und P t=some (.slice elem))
  (hi:P.info? elem=some i) (hz:i.zero=some z) (hs:i.size=n) (ht':yD P t'=true) (hb:i.bytes≤8192) (hneed:sLen+m<4294967296)
  (hl:∀w':World,(Builtin.lenOf ux).run P w'=.ok m w') (ho:(Builtin.firstCells n sLen (.slice base sLen sCap)).run P w.drew=.ok olds.toArray w.drew)
  (hn:(Builtin.firstCells n m ux).run P w.drew=.ok news.toArray w.drew) (hg:sCap<sLen+m) :
  (Builtin.append_ #[t,t'] ty #[.slice base sLen sCap,ux]).run P w =
   .ok (.slice (some ⟨w.heap.size,0,none⟩) (sLen+m) (grownCap w (sLen+m) sCap elem))
    (w.drew.alloc (.cells (olds.toArray++news.toArray++Builtin.zeroCells z.cells (grownCap w (sLen+m) sCap elem - (sLen+m))) elem)):=by
 have hnc:=nextslicecap_le hg;have hnb:Builtin.nextslicecap (sLen+m) sCap * i.bytes≤(2 * (sLen+m)) * 8192:=Nat.mul_le_mul hnc hb;have h1:¬ (sLen+m≤sCap):=by omega
 have h63:¬ (9223372036854775807<((sLen:Int)+(m:Int))):=by omega
 have h48:¬ (281474976710656<Builtin.nextslicecap (sLen+m) sCap * i.bytes):=by omega
 obtain⟨d,hd,hk⟩:=zKX ht';subst hs;simp [Builtin.append_,yQ hu,yQ hd,sizeOf,typeInfo,zeroValue,hi,hz,hl,h1,h63,h48,Question.forced,ho,hn,newRow,grownCap]
 congr 2
 apply Array.ext';simp [List.append_assoc]
def zNW {P:Program} {w:World} {t t' ty elem:TypeId} {n m sLen sCap:Nat} {base:Option Addr} {ux:Value} {i:TypeInfo} {news:List Value} (hu:und P t=some (.slice elem))
  (hi:P.info? elem=some i) (hs:i.size=n) (ht':yD P t'=true) (hl:∀w':World,(Builtin.lenOf ux).run P w'=.ok m w')
  (hn:(Builtin.firstCells n m ux).run P w=.ok news.toArray w) (hg:sLen+m≤sCap) :
  (Builtin.append_ #[t,t'] ty #[.slice base sLen sCap,ux]).run P w =
   ((match base with|some a=>storeCells (a.add (sLen * n)) news|none=>pure ()).run P w).andThen fun _ w'=>.ok (.slice base (sLen+m) sCap) w':=by
 obtain⟨d,hd,hk⟩:=zKX ht';subst hs;cases base with
 |none=>simp [Builtin.append_,yQ hu,yQ hd,sizeOf,typeInfo,hi,hl,hg,hn]
 |some a=>simp [Builtin.append_,yQ hu,yQ hd,sizeOf,typeInfo,hi,hl,hg,hn]
def zRg {γ:G} {g:Look} {w w':World} {id n:Nat} {o:Obj} {X:Go.Obj} (e:Ext γ g (γ.new id w.heap.size n) (upd g [(id,o)])) (h:HR γ g w)
  (hw:w'.heap=w.heap.push X) (ho:OR (γ.new id w.heap.size n) (upd g [(id,o)]) w' id w.heap.size o) (hso:w'.os=w.os∧w'.output=w.output:=by exact⟨rfl,rfl⟩) :
  HR (γ.new id w.heap.size n) (upd g [(id,o)]) w'∧Fr γ w (γ.new id w.heap.size n) w':=by
 have hold:∀b,b<w.heap.size→w'.heap[b]?=w.heap[b]?:=fun b hb=>by
  rw[hw,Array.getElem?_push];simp [Nat.ne_of_lt hb]
 refine⟨⟨fun i b hb=>?_,fun i i' b hb hb'=>?_,fun b i v hv=>?_⟩,⟨by rw[hw];simp,fun b hb _=>hold b hb,fun i b hb=>?_,fun b i v hv=>.inl hv,hso⟩⟩
 ·by_cases hid:i=id
  ·subst hid;simp [G.new] at hb;subst hb;exact⟨o,by rw[yS,if_pos rfl],ho⟩
  simp [G.new,hid] at hb;obtain⟨x,hx,hor⟩:=h.obj i b hb;exact⟨x,by rw[yS,if_neg hid];exact hx,hor.mono e (hold b hor.lt) (by simp [G.new,hid]) (fun _=>rfl)⟩
 ·by_cases hid:i=id<;>by_cases hid':i'=id
  ·rw[hid,hid']
  ·simp [G.new,hid] at hb;simp [G.new,hid'] at hb';subst hb;have:=h.lt hb';omega
  ·simp [G.new,hid'] at hb';simp [G.new,hid] at hb;subst hb';have:=h.lt hb;omega
  simp [G.new,hid] at hb;simp [G.new,hid'] at hb';exact h.inj i i' b hb hb'
 ·have hc:=h.imm b i v hv;rw[zAd (hold b (zEU hc))];exact hc
 by_cases hid:i=id
 ·simp [G.new,hid] at hb;exact .inl (by omega)
 simp [G.new,hid] at hb;exact .inr ⟨i,hb⟩
def zPx {γ:G} {g:Look} {w w':World} {id b:Nat} {o':Obj} (e:Ext γ g γ (upd g [(id,o')])) (h:HR γ g w) (hb:γ.β id=some b) (himm:∀i,γ.imm b i=none)
  (hw:∀b',b'≠b→w'.heap[b']?=w.heap[b']?) (hsz:w'.heap.size=w.heap.size) (ho:OR γ (upd g [(id,o')]) w' id b o') (hso:w'.os=w.os∧w'.output=w.output:=by first|exact⟨rfl,rfl⟩|exact zEO _ _ _ _):HR γ (upd g [(id,o')]) w'∧Fr γ w γ w':=by
 refine⟨⟨fun i b' hib=>?_,h.inj,fun b' o v hv=>?_⟩,⟨by omega,fun b' _ hn=>hw b' (fun hh=>hn id (by rw[hh];exact hb)),fun i b' hib=>.inr ⟨i,hib⟩,fun _ _ _ hv=>.inl hv,hso⟩⟩
 ·by_cases hi:i=id
  ·subst hi;rw[hb] at hib;cases hib;exact⟨o',by rw[yS,if_pos rfl],ho⟩
  obtain⟨x,hx,hor⟩:=h.obj i b' hib;have hbb:b'≠b:=fun hh=>hi (h.inj i id b (hh ▸ hib) hb)
  exact⟨x,by rw[yS,if_neg hi];exact hx,hor.mono e (hw b' hbb) rfl (fun _=>rfl)⟩
 have hbb:b'≠b:=fun hh=>by rw[hh,himm] at hv;cases hv
 rw[zAd (hw b' hbb)];exact h.imm b' o v hv
theorem Flat.cells {γ:G} {n:Nat} {es:List (List Tree)} {vs:List Value} {c:Array Value} (h:Flat γ.imm n es vs) (hn:∀e ∈ es,e.length=n) (hc:∀k,k<es.length * n→c[k]?=vs[k]?) :
  ∀(i j:Nat) e t v,es[i]?=some e→e[j]?=some t→c[i * n+j]?=some v→TR γ.imm t v∧v.oneCell'=true:=by
 intro i j e t v he ht hv;obtain⟨v',h1,h2⟩:=h.val i j e t he ht;have hlt:=xY (zR he) (k:=j+1) (s:=n) (by have:=zR ht;rw[hn e (List.mem_of_getElem? he)] at this;omega);rw[hc _ (by omega),h1] at hv;cases hv;exact h2
def zRl {P:Program} {γ:G} {g:Look} {w:World} {nid:Nat} {t t' ty:TypeId} {s x v:AV} {us ux:Value} {p:Patch} (h:HR γ g w) (hn:(∃o,(nid,o) ∈ p)→γ.β nid=none) (hg:(∃o,(nid,o) ∈ p)→g nid=none)
  (hs:VR γ g s us) (hx:VR γ g x ux) (ha:append P g nid t t' s x=some (.val v,p)):Good γ g w p v ((Builtin.append_ #[t,t'] ty #[us,ux]).run P w):=by
 unfold append at ha;split at ha
 ·rename_i elem hu;split at ha
  ·rename_i new n hadd hsz hni;obtain⟨i,hi,hin⟩:=zId hsz;split at ha
   ·rename_i nl clip es;have hst:=hs.of_tree;split at ha
    ·-- nothing is put behind it
     cases ha;obtain⟨hl,vs,hf,hfc⟩:=zGj (P:=P) (n:=n) h hadd hx (fun e he=>by cases he);have hv0:vs=[]:=List.eq_nil_of_length_eq_zero (by rw[hf.len];simp);subst hv0;cases hst with
     |sl _ _ _ a cap s0 val h0 h1 h2 h3 h4 h5 h6 =>
      rw[zNW (news:=[]) hu hi hin hni hl (hfc w fun _ _=>rfl) (by simpa using h4)];have:((match a with|some a=>storeCells (a.add (es.length * n)) []|none=>pure ()).run P w:Result Unit)=.ok () w:=by cases a<;>rfl
      rw[this];exact .pure h (.t _ _ (.sl nl clip es a cap s0 val h0 h1 h2 h3 h4 h5 h6))
    rename_i e new;split at ha
    ·rename_i hh;obtain⟨rfl,hln,hhl,hsm,hpos⟩:=hh;cases ha;obtain⟨i',z,hi',hb,hlt,hz,hzs⟩:=zKu hsm;rw[hi] at hi';cases hi';have hnew:=zNe hln;have hes:=zKW hst hhl;obtain⟨hl,vs,hf,hfc⟩:=zGj (P:=P) (n:=n) h hadd hx hnew;have hlen_new:(e::new).length≠0:=by simp
     cases hst with
     |sl _ _ _ a cap s0 val h0 h1 h2 h3 h4 h5 h6 =>
      have hcap:=h5 rfl;subst hcap;obtain⟨a',cap',olds,hua,hle,hfo,hco⟩:=zEf (n:=n) h (x:=.t (.sl nl true es)) rfl (.t _ _ (.sl nl true es a _ s0 val h0 h1 h2 h3 h4 h5 h6)) hes;cases hua;have hro:(Builtin.firstCells n es.length (.slice a es.length es.length)).run P w.drew=.ok olds.toArray w.drew:=by
       cases a with
       |none =>
        have:olds=[]:=by
         cases olds with
         |nil=>rfl
         |cons v vs=>obtain⟨b,o,hh,_⟩:=hco 0 v rfl;cases hh
        subst this;exact run_firstCells_none _ _ _ _ _
       |some a =>
        refine run_firstCells_some _ n es.length a _ _ olds hfo.len fun j v hj=>?_
        obtain⟨b,o,ha,hc⟩:=hco j v hj;cases ha;rw[vS];exact hc
      rw[zOE (olds:=olds) (news:=vs) (ty:=ty) (z:=z) hu hi hz hin hni hb hlt hl hro (hfc _ fun _ _=>rfl) (by omega)];have hge:=zGn w (es.length+(e::new).length) es.length elem;have hall:∀x ∈ es++e::new,x.length=n:=fun x hx=>by
       rcases List.mem_append.1 hx with hx|hx
       ·exact hes x hx
       exact hnew x hx
      have hflat:=hfo.append hes hnew hf;have:=zMt (nid:=nid) (s:=n) (cap:=grownCap w (es.length+(e::new).length) es.length elem) (es:=es++e::new)
       (c:=olds.toArray++vs.toArray++Builtin.zeroCells z.cells (grownCap w (es.length+(e::new).length) es.length elem - (es.length+(e::new).length))) (ty:=elem) (fr:=(0,0)) (hn ⟨_,.head _⟩) (hg ⟨_,.head _⟩) h
       (w':=w.drew.alloc (.cells (olds.toArray++vs.toArray++Builtin.zeroCells z.cells (grownCap w (es.length+(e::new).length) es.length elem - (es.length+(e::new).length))) elem)) rfl
       (zBh _) hall (by rw[List.length_append];exact hge)
       (by
        simp only[Array.size_append,List.size_toArray,size_zeroCells,hfo.len,hf.len,hzs,hin];rw[← Nat.add_mul,← Nat.add_mul];congr 1;omega)
       (hflat.cells hall fun k hk=>by
        have hk2:k<(olds++vs).length:=by rw[hflat.len];exact hk
        rw[Array.getElem?_append_left (by simpa using hk2)];simp)
      rw[List.length_append] at this;exact this
    cases ha
   ·rename_i id ver;split at ha
    ·rename_i s0 ver' es hgid;split at ha
     ·rename_i hh;obtain⟨rfl,rfl,hln,hsm,hpos⟩:=hh;cases ha;obtain⟨i',z,hi',hb,hlt,hz,hzs⟩:=zKu hsm;rw[hi] at hi';cases hi';have hnew:=zNe hln;obtain⟨hl,vs,hf,hfc⟩:=zGj (P:=P) (n:=s0) h hadd hx hnew;cases hs with
      |hs _ _ a len cap ho hh =>
       obtain⟨b,s',hbid,hd,rfl,hle,hcs⟩:=hh (kR hgid);rw[vU hgid] at hd;cases hd;obtain⟨o,ho',hor⟩:=h.obj id b hbid;rw[hgid] at ho';cases ho';obtain⟨⟨c,tc,fr,k1,k2,k3,k4,k5,k6,k7⟩,k8⟩:=hor;have k8:=k8 rfl;have hcur':∀es',cur (upd g [(id,.arr s0 (ver+1) false es')]) id=some (ver+1):=fun es'=>by unfold cur;rw[yS,if_pos rfl]
       have hdim':∀es',dims (upd g [(id,.arr s0 (ver+1) false es')]) id=some (s0,es'.length):=fun es'=>by unfold dims;rw[yS,if_pos rfl]
       have hext:∀(γ':G) es',γ'.imm=γ.imm→(∀i,i≠id→γ'.β i=γ.β i∧γ'.sz i=γ.sz i)→Ext γ g γ' (upd g [(id,.arr s0 (ver+1) false es')]):=fun γ' es' him hsame=>by
        refine⟨by rw[him];exact .refl _,fun i b hb hc=>?_,fun i c hc=>?_⟩
        ·have hne:i≠id:=fun e=>by rw[e,kR hgid] at hc;cases hc
         exact⟨by rw[(hsame i hne).1];exact hb,by rw[zAn hne];exact hc⟩
        by_cases hi:i=id
        ·subst hi;rw[kR hgid] at hc;cases hc;exact⟨ver+1,hcur' es',by omega,fun hh=>by omega⟩
        exact⟨c,by rw[zAn hi];exact hc,Nat.le_refl _,fun _=>⟨(hsame i hi).1,(hsame i hi).2,zBT hi⟩⟩
       have hall:∀x ∈ es++new,x.length=s0:=fun x hx=>by
        rcases List.mem_append.1 hx with hx|hx
        ·exact k5 x hx
        exact hnew x hx
       by_cases hroom:es.length+new.length≤cap
       ·rw[zNW (news:=vs) hu hi hin hni hl (hfc w fun _ _=>rfl) hroom];have hspace:es.length * s0+vs.length≤c.size:=by
         rw[hf.len,k3,← Nat.add_mul];exact Nat.le_trans (Nat.mul_le_mul_right s0 hroom) hcs
        have hst:=run_storeCells_cells (P:=P) b (es.length * s0) vs 0 w (fun j hj=>zF8 k1 (by omega)) (fun j hj=>zDy k1 k2 (by omega)) hf.one;obtain⟨c',s1,s2,s3,s4,s5⟩:=zBb b tc fr vs (es.length * s0) w c k1 hspace;have e:=hext γ (es++new) rfl (fun _ _=>⟨rfl,rfl⟩);obtain⟨h',f'⟩:=zPx (w':=w.setCells b (es.length * s0) vs) e h hbid k8 s4 s5
         ⟨⟨c',tc,fr,s1,by rw[s2];exact k2,by rw[s2];exact k3,by rw[s2,List.length_append,Nat.add_mul];rw[hf.len] at hspace;exact hspace,hall,
          fun i j e t v he ht hv=>by
           have hlt:=xY (zR he) (k:=j+1) (s:=s0) (by have:=zR ht;rw[hall e (List.mem_of_getElem? he)] at this;omega);rw[s3] at hv
           by_cases hie:i<es.length
           ·rw[List.getElem?_append_left hie] at he;have hlt2:=xY hie (k:=j+1) (s:=s0) (by have:=zR ht;rw[k5 e (List.mem_of_getElem? he)] at this;omega);rw[if_neg (by omega)] at hv;exact k6 i j e t v he ht hv
           rw[List.getElem?_append_right (by omega)] at he;obtain⟨v',g1,g2⟩:=hf.val (i - es.length) j e t he ht;have hm:es.length * s0≤i * s0:=Nat.mul_le_mul_right s0 (by omega);have hgl:=zR g1;rw[Nat.sub_mul] at g1 hgl;rw[if_pos (by omega)] at hv;have:i * s0+j - es.length * s0=i * s0 - es.length * s0+j:=by omega
           rw[this,g1] at hv;cases hv;exact g2,
          fun hf=>by cases hf⟩,fun _=>k8⟩
        refine⟨.slice (some ⟨b,0,none⟩) (es.length+new.length) cap,w.setCells b (es.length * s0) vs,γ,?_,e,h',?_,f'⟩
        ·simp only[vS,Nat.zero_add];rw[hst];simp only[Nat.add_zero,Result.andThen_ok]
        have:es.length+new.length=(es++new).length:=by simp
        rw[this];refine .hs id (ver+1) _ _ cap ⟨ver+1,hcur' _,Nat.le_refl _⟩ fun _=>⟨b,s0,hbid,hdim' _,rfl,by simpa using hroom,hcs⟩
       obtain⟨a',cap',olds,hua,hle',hfo,hco⟩:=zEf (n:=s0) h (x:=.hs id ver) (es:=es) (by simp [elems,hgid]) (VR.hs id ver ⟨b,0,none⟩ es.length cap ho hh) k5;cases hua;have hro:(Builtin.firstCells s0 es.length (.slice (some ⟨b,0,none⟩) es.length cap)).run P w.drew=.ok olds.toArray w.drew:=by
        refine run_firstCells_some _ s0 es.length _ _ _ olds hfo.len fun j v hj=>?_
        obtain⟨b',o',ha,hc⟩:=hco j v hj;cases ha;rw[vS];exact hc
       rw[zOE (olds:=olds) (news:=vs) (ty:=ty) (z:=z) hu hi hz hin hni hb hlt hl hro (hfc _ fun _ _=>rfl) (by omega)];have hge:=zGn w (es.length+new.length) cap elem;have hflat:=hfo.append k5 hnew hf;generalize hC:olds.toArray++vs.toArray++Builtin.zeroCells z.cells (grownCap w (es.length+new.length) cap elem - (es.length+new.length))=C;have hCs:C.size=grownCap w (es.length+new.length) cap elem * s0:=by
        rw[← hC];simp only[Array.size_append,List.size_toArray,size_zeroCells,hfo.len,hf.len,hzs,hin];rw[← Nat.add_mul,← Nat.add_mul];congr 1;omega
       have e:=hext (γ.new id w.heap.size C.size) (es++new) rfl (fun i hi=>by simp [G.new,hi]);obtain⟨h',f'⟩:=zRg (w':=w.drew.alloc (.cells C elem)) (X:=.cells C elem) e h rfl
        ⟨⟨C,elem,(0,0),by
          show (w.heap.push (.cells C elem))[w.heap.size]?=_
          rw[Array.getElem?_push];simp,zBh _,by simp [G.new],by
          rw[hCs,List.length_append];exact Nat.mul_le_mul_right s0 hge,hall,
         hflat.cells hall fun k hk=>by
          have hk2:k<(olds++vs).length:=by rw[hflat.len];exact hk
          rw[← hC,Array.getElem?_append_left (by simpa using hk2)];simp,
         fun hf=>by cases hf⟩,fun _ o=>zAe h o⟩
       refine⟨_,_,_,rfl,e,h',?_,f'⟩;have:es.length+new.length=(es++new).length:=by simp
       rw[this] at hge ⊢;refine .hs id (ver+1) _ _ _ ⟨ver+1,hcur' _,Nat.le_refl _⟩ fun _=>⟨w.heap.size,s0,by simp [G.new],hdim' _,rfl,hge,?_⟩
       simp [G.new,hCs]
     cases ha
    cases ha
   cases ha
  cases ha
 cases ha
def zVV{γ:G}{g:Look}{x:AV}{u:Value}{n:Nat}(hx:lenOf g x=some n)(hv:VR γ g x u):∃a c,u=.slice a n c:=by
 unfold lenOf at hx;split at hx
 ·cases hx;have ht:=hv.of_tree;cases ht;exact⟨_,_,rfl⟩
 ·rename_i id ver;cases hv with
  |hs _ _ a m cap ho hh =>
   split at hx
   ·rename_i s ver' frz es hg;split at hx
    ·rename_i hver;cases hx;obtain⟨b,s',hb,hd,_⟩:=hh (by rw[kR hg,hver]);rw[vU hg] at hd;cases hd;exact⟨_,_,rfl⟩
    cases hx
   ·rename_i s ver' es hg;split at hx
    ·rename_i hver;cases hx;obtain⟨b,s',hb,hd,_⟩:=hh (by unfold cur;rw[hg];simp [hver]);have hdd:dims g id=some (s,es.length):=by unfold dims;rw[hg]
     rw[hdd] at hd;cases hd;exact⟨_,_,rfl⟩
    cases hx
   cases hx
 ·cases hx;cases hv;exact⟨_,_,rfl⟩
 cases hx
def zYb {P:Program} {γ:G} {g:Look} {w:World} {t ty:TypeId} {ts:List TypeId} {x:List AV} {us:List Value} {v:AV} {p:Patch} (h:HR γ g w) (hx:VRs γ g x us)
  (hl:xLen P g t x=some (.val v,p)):Good γ g w p v ((Builtin.len_ (t::ts).toArray ty us.toArray).run P w):=by
 unfold xLen at hl;split at hl
 ·rename_i x;obtain⟨u,us',rfl,hu,hr⟩:=hx.cases_cons;have:=hr.nil_inv;subst this;have hint:∀n:Nat,Good γ g w [] (.t (.int .i64 (.ofNat n))) (.ok (goInt n) w):=fun n=>.pure h (.t _ _ (.int _ _))
  split at hl
  ·rename_i n e hut;cases hl;simp [Builtin.len_,yQ hut];exact hint n
  ·rename_i s hut;cases hl;obtain⟨rfl,_⟩:=hu.of_tree.str_inv;simp [Builtin.len_,yQ hut,zAx];exact hint _
  ·rename_i e hut;split at hl
   ·rename_i n hn;cases hl;obtain⟨a,c,rfl⟩:=zVV hn hu;simp [Builtin.len_,yQ hut];exact hint n
   cases hl
  cases hl
 cases hl
def zFa{P:Program}{γ:G}{g:Look}{w:World}(lt:Bool):∀ {xs:List AV} {x:AV} {us:List Value} {u:Value} {v:AV},HR γ g w→VR γ g x u→VRs γ g xs us→kO lt x xs=some v →
  Good γ g w [] v ((us.foldlM (if lt then Builtin.min2 else Builtin.max2) u).run P w)
 |[],x,us,u,v,h,hx,hxs,hm=>by
  have:=hxs.nil_inv;subst this;simp [kO] at hm;subst hm;exact .pure h hx
 |y::xs,x,us,u,v,h,hx,hxs,hm=>by
  obtain⟨u',us',rfl,hu,hr⟩:=hxs.cases_cons;unfold kO at hm;split at hm
  ·rename_i heq;cases heq
  ·rename_i k a k' b rest heq;cases heq;split at hm
   ·rename_i hk;subst hk;have h1:=hx.of_tree;have h2:=hu.of_tree;cases h1;cases h2;simp only[List.foldlM_cons,Sem.run_bind];cases lt with
    |true =>
     have:(Builtin.min2 (.int k a) (.int k b)).run P w=.ok (.int k (if b<a then b else a)) w:=rfl;simp only[if_true,this,Result.andThen_ok];exact zFa true h (.t _ _ (by simpa using TR.int k _)) hr hm
    |false =>
     have:(Builtin.max2 (.int k a) (.int k b)).run P w=.ok (.int k (if b > a then b else a)) w:=rfl;simp only[Bool.false_eq_true,if_false,this,Result.andThen_ok];exact zFa false h (.t _ _ (by simpa using TR.int k _)) hr hm
   cases hm
  cases hm
def zHY:∀ {es:List (List Tree)} {bs:List Nat},zD7 es=some bs→∃ns:List Int,es=ns.map (fun n=>[.int .u8 n])∧bs=ns.map fun n=>n.toNat % 256
 |[],bs,h=>by simp [zD7] at h;subst h;exact⟨[],rfl,rfl⟩
 |e::es,bs,h=>by
  unfold zD7 at h;split at h
  ·rename_i heq;cases heq
  ·rename_i n es' heq;cases heq;split at h
   ·rename_i bs' hb;cases h;obtain⟨ns,h1,h2⟩:=zHY hb;exact⟨n::ns,by rw[h1];rfl,by rw[h2];rfl⟩
   cases h
  cases h
def zL7{I:Imm}{ns:List Int}{vs:List Value}(h:Flat I 1 (ns.map fun n=>[Tree.int .u8 n]) vs):vs=ns.map fun n=>Value.int .u8 n:=by
 apply List.ext_getElem?;intro i;have hl:=h.len;simp at hl
 by_cases hi:i<ns.length
 ·obtain⟨v,h1,h2,_⟩:=h.val i 0 [.int .u8 ns[i]] (.int .u8 ns[i]) (by simp [hi]) rfl;cases h2;simp at h1;rw[h1];simp [hi]
 rw[List.getElem?_eq_none (by omega),List.getElem?_eq_none (by simp;omega)]
def zVb(n:Nat):UInt8.ofNat (n % 256)=UInt8.ofNat n:=by
 apply UInt8.toNat.inj;simp
def zT2(ns:List Int):ns.foldl (fun r n=>r.push (UInt8.ofNat n.toNat)) ByteArray.empty=mkS (ns.map fun n=>n.toNat % 256):=by
 rw[foldl_push_bytes];apply ByteArray.ext;simp [mkS,ByteArray.empty,ByteArray.emptyWithCapacity,Function.comp_def,zVb]
 rfl
def zPO {P:Program} {γ:G} {g:Look} {w:World} {nid:Nat} {src dst:TypeId} {x v:AV} {u:Value} {p:Patch} (h:HR γ g w) (hn:(∃o,(nid,o) ∈ p)→γ.β nid=none) (hg:(∃o,(nid,o) ∈ p)→g nid=none)
  (hv:VR γ g x u) (hx:convert P g nid src dst x=some (.val v,p)):Good γ g w p v ((Go.convert src dst u).run P w):=by
 unfold convert at hx;split at hx
 ·rename_i d k k' n hs hd;cases hx;have ht:=hv.of_tree;cases ht;have:(Go.convert src dst (.int k' n)).run P w=.ok (.int k (k.wrap n)) w:=by
   simp [Go.convert,yQ hs,yQ hd,Conv.intToInt]
  rw[this];exact .pure h (.t _ _ (.int _ _))
 ·rename_i d s hs hd;cases hx;obtain⟨rfl,hb⟩:=hv.of_tree.str_inv;have:(Go.convert src dst (.string (mkS s))).run P w=.ok (.string (mkS s)) w:=by
   simp [Go.convert,yQ hs,yQ hd]
  rw[this];exact .pure h (.t _ _ (.mkS hb))
 ·rename_i e s hs hd;split at hx
  ·rename_i he;cases hx;obtain⟨rfl,hb⟩:=hv.of_tree.str_inv;rw[run_bytes_of_string w src dst e (mkS s) (wZ hs) (wZ hd) (wZ he)];have hge:=zGn w (mkS s).size 0 e;rw[zAx] at hge ⊢;have hC:bytesRow (mkS s) (grownCap w s.length 0 e)=(s.map fun b:Nat=>Value.int .u8 (b:Int)).toArray++Array.replicate (grownCap w s.length 0 e - s.length) (.int .u8 0):=by
    unfold bytesRow;rw[zNa hb,zAx]
   have hlen:s.length=(byteCells s).length:=by simp [byteCells]
   have:=zMt (nid:=nid) (s:=1) (cap:=grownCap w s.length 0 e) (es:=byteCells s) (c:=bytesRow (mkS s) (grownCap w s.length 0 e)) (ty:=e)
    (fr:=((bytesRow (mkS s) (grownCap w s.length 0 e)).size,(bytesRow (mkS s) (grownCap w s.length 0 e)).size+1)) (hn ⟨_,.head _⟩) (hg ⟨_,.head _⟩) h
    (w':=w.drew.alloc (.cells (bytesRow (mkS s) (grownCap w s.length 0 e)) e ((bytesRow (mkS s) (grownCap w s.length 0 e)).size,(bytesRow (mkS s) (grownCap w s.length 0 e)).size+1))) rfl
    (fun i hi hh=>by omega) (zCE s) (by rw[← hlen];exact hge) (by rw[hC];simp;omega)
    ((zLs γ.imm s).cells (zCE s) fun k hk=>by
     rw[hC,Array.getElem?_append_left (by simpa [byteCells] using hk)];simp)
   rw[← hlen] at this;exact this
  cases hx
 ·rename_i e hs hd hnot;split at hx
  ·rename_i he;split at hx
   ·rename_i es hes;split at hx
    ·rename_i bs hbs;cases hx;obtain⟨ns,rfl,rfl⟩:=zHY hbs;have hb:∀b ∈ ns.map (fun n:Int=>n.toNat % 256),b<256:=fun b hbm=>by
      obtain⟨n,_,rfl⟩:=List.mem_map.1 hbm;exact Nat.mod_lt _ (by decide)
     obtain⟨a,cap,vs,rfl,hle,hf,hc⟩:=zEf (n:=1) h hes hv (fun e he=>by obtain⟨b,_,rfl⟩:=List.mem_map.1 he;rfl);have hvs:=zL7 hf;have hgood:Good γ g w [] (.t (.str (ns.map fun n=>n.toNat % 256))) (.ok (.string (mkS (ns.map fun n=>n.toNat % 256))) w):=.pure h (.t _ _ (.mkS hb));cases a with
     |none =>
      have:vs=[]:=by
       cases vs with
       |nil=>rfl
       |cons v vs=>obtain⟨b,o,hh,_⟩:=hc 0 v rfl;cases hh
      rw[this] at hvs;have hbs0:ns=[]:=by simpa using hvs.symm
      subst hbs0;rw[run_convert_bytes_nil w src e (wZ hs) (wZ he) _ _ dst (wZ hd)];exact hgood
     |some a =>
      rw[run_convert_bytes_string w src dst e _ _ _ (wZ hs) (wZ he) (wZ hd)];have hl:=run_loadCells_list (P:=P) w a vs (fun j v hj=>by
       obtain⟨b,o,ha,hcc⟩:=hc j v hj;cases ha;rw[vS];exact hcc)
      rw[run_bytesToString w a _ cap ns (by
       have e1:(ns.map fun n=>[Tree.int .u8 n]).length=vs.length:=by rw[hvs];simp
       rw[e1,hl,hvs]),zT2]
      exact hgood
    cases hx
   cases hx
  cases hx
 cases hx
def zSO {P:Program} {γ:G} {g:Look} {w:World} {nid:Nat} {t:TypeId} {x v:AV} {u:Value} {p:Patch} (h:HR γ g w) (hn:γ.β nid=none) (hg:g nid=none)
  (hv:VR γ g x u) (hx:zIu P nid t x=some (.val v,p)):Good γ g w p v ((Instr.range t u).run P w):=by
 unfold zIu at hx;split at hx
 ·rename_i s hu;cases hx;obtain⟨rfl,hb⟩:=hv.of_tree.str_inv;have hrun:(Instr.range t (.string (mkS s))).run P w=.ok (.pointer (some ⟨w.heap.size,0,none⟩)) (w.alloc (.stringIter (mkS s) 0)):=by
   simp [Instr.range,yQ hu]
  rw[hrun];obtain⟨h1,h2,h3⟩:=zC9 (n:=0) (w':=w.alloc (.stringIter (mkS s) 0)) (o:=.siter s 0) (X:=.stringIter (mkS s) 0) hn hg h rfl
   ⟨by show (w.heap.push (.stringIter (mkS s) 0))[w.heap.size]?=_;rw[Array.getElem?_push];simp;rfl,fun o=>zAe h o⟩
  refine⟨_,_,_,rfl,h1,h2,.box nid 0 _ (by simp [G.new]) ?_,h3⟩;unfold cur;rw[yS,if_pos rfl]
 cases hx
def zWw {P:Program} {γ:G} {g:Look} {w:World} {t:TypeId} {x v:AV} {u:Value} {p:Patch} (h:HR γ g w) (hv:VR γ g x u)
  (hx:zGL g x=some (.val v,p)):Good γ g w p v ((Instr.next u true t).run P w):=by
 unfold zGL at hx;split at hx
 ·rename_i id;split at hx
  ·rename_i s pos hg;cases hv with
   |box _ _ b hb hc =>
    obtain⟨o,ho,hor⟩:=h.obj id b hb;rw[hg] at ho;cases ho;obtain⟨k1,k2⟩:=hor;have hblt:b<w.heap.size:=h.lt hb;have hobj:(getObj b).run P w=.ok (.stringIter (mkS s) pos) w:=by
     unfold getObj;simp only[Sem.run,k1];rfl
    split at hx
    ·rename_i hpos;cases hx;have hset:∀o,(setObj b o).run P w=.ok () { w with heap:=w.heap.setIfInBounds b o }:=fun o=>by
      unfold setObj;simp only[Sem.run,k1]
     have hsz:pos<(mkS s).size:=by rw[zAx];exact hpos
     have hrun:(Instr.next (.pointer (some ⟨b,0,none⟩)) true t).run P w =
       .ok (.tuple #[.bool true,goInt pos,.int .i32 (Utf8.decode (mkS s) pos).1]) { w with heap:=w.heap.setIfInBounds b (.stringIter (mkS s) (pos+(Utf8.decode (mkS s) pos).2)) }:=by
      simp only[Instr.next,Sem.run_bind,hobj,Result.andThen_ok,hsz,if_true,hset,Sem.run_pure]
     rw[hrun];have hcur:cur (upd g [(id,.siter s (pos+(Utf8.decode (mkS s) pos).2))]) id=cur g id:=by unfold cur;rw[yS,if_pos rfl,hg]
     have hdim:dims (upd g [(id,.siter s (pos+(Utf8.decode (mkS s) pos).2))]) id=dims g id:=by unfold dims;rw[yS,if_pos rfl,hg]
     obtain⟨e,hh,f⟩:=zFi (w':={ w with heap:=w.heap.setIfInBounds b (.stringIter (mkS s) (pos+(Utf8.decode (mkS s) pos).2)) }) (o':=.siter s (pos+(Utf8.decode (mkS s) pos).2)) h hb k2 hcur hdim
      (fun b' hb'=>by rw[Array.getElem?_setIfInBounds,if_neg (fun e=>hb' e.symm)]) (by simp)
      ⟨by rw[Array.getElem?_setIfInBounds,if_pos rfl,if_pos hblt];rfl,k2⟩
     refine⟨_,_,γ,rfl,e,hh,?_,f⟩;exact .tup _ [.bool true,goInt pos,.int .i32 (Utf8.decode (mkS s) pos).1] rfl fun i c v hc hv=>by
      match i with
      |0=>simp at hc hv;subst hc;subst hv;exact .t _ _ (.bool _)
      |1=>simp at hc hv;subst hc;subst hv;exact .t _ _ (.int _ _)
      |2=>simp at hc hv;subst hc;subst hv;exact .t _ _ (.int _ _)
      |i+3=>simp at hc
    rename_i hpos;cases hx;have hsz:¬ pos<(mkS s).size:=by rw[zAx];exact hpos
    have hrun:(Instr.next (.pointer (some ⟨b,0,none⟩)) true t).run P w=.ok (.tuple #[.bool false]) w:=by
     simp only[Instr.next,Sem.run_bind,hobj,Result.andThen_ok,hsz,if_false,Sem.run_pure]
    rw[hrun];exact .pure h (.tup _ [.bool false] rfl fun i c v hc hv=>by
     match i with
     |0=>simp at hc hv;subst hc;subst hv;exact .t _ _ (.bool _)
     |i+1=>simp at hc)
  cases hx
 cases hx
def zUJ {P:Program} {γ:G} {g:Look} {w:World} {t:TypeId} {x v:AV} {u:Value} {p:Patch} (h:HR γ g w) (hv:VR γ g x u) (hx:zB5 P t x=some (.val v,p)) :
  Good γ g w p v ((Instr.makeInterface t u).run P w):=by
 unfold zB5 at hx;split at hx
 ·cases hx
 ·rename_i d hne hu;have run:(Instr.makeInterface t u).run P w=.ok (.iface t u) w:=by
   unfold Instr.makeInterface;simp only[Sem.run_bind,yQ hu,Result.andThen_ok];cases d<;>first|rfl|exact(hne _ rfl).elim
  unfold ret at hx;split at hx
  ·cases hx;rw[run];exact .pure h (.t _ _ (.ifc t _ _ hv.of_tree))
  ·cases hx;rw[run];exact .pure h (.ifv t _ _ hv)
  ·cases hx;rw[run];exact .pure h (.ifv t _ _ hv)
  cases hx
 cases hx
def zMB{P:Program}{γ:G}{g:Look}{w:World}{t:TypeId}{z:AV}(h:zBS P t=some z):∃u,(zeroValue t).run P w=.ok u w∧VR γ g z u:=by
 unfold zBS at h;split at h
 ·rename_i i hi;split at h
  ·rename_i u hu;cases h;exact⟨u,zFD (zDU hi) hu,zN8 u⟩
  cases h
 cases h
theorem VR.tup2{γ:G}{g:Look}{x y:AV}{u v:Value}(hx:VR γ g x u)(hy:VR γ g y v):VR γ g (.tup [x,y]) (.tuple #[u,v]) :=
 .tup _ [u,v] rfl (VRs.cons hx (VRs.cons hy .nil)).2
def zSa {P:Program} {γ:G} {g:Look} {w:World} {xt t:TypeId} {x v:AV} {ok:Bool} {u:Value} {p:Patch} (h:HR γ g w) (hv:VR γ g x u) (hx:jT P x t ok=some (.val v,p)) :
  Good γ g w p v ((Instr.typeAssert u xt t ok).run P w):=by
 unfold jT at hx;split at hx
 ·cases hx
 ·rename_i d hne hu;have fails:∀ {z:AV},zBS P t=some z→(match d with|.interface _=>False|_=>True)→∀st dy ms,∃zz,VR γ g z zz∧((if true=true then (do pure (.tuple #[← zeroValue t,.bool false])) else runtimePanic (.typeAssertion st dy t ms):Sem Value)).run P w=.ok (.tuple #[zz,.bool false]) w:=fun hz _ st dy ms=>by
   obtain⟨zz,h1,h2⟩:=zMB (γ:=γ) (g:=g) (w:=w) hz;exact⟨zz,h2,by simp only[if_true,Sem.run_bind,h1,Result.andThen_ok,Sem.run_pure]⟩
  split at hx
  ·rename_i s y;obtain⟨yv,rfl,hyv⟩:∃yv,u=.iface s yv∧TR γ.imm y yv:=by
    have:=hv.of_tree;cases this with
    |ifc _ _ v hh=>exact⟨v,rfl,hh⟩
   have hrun : (Instr.typeAssert (.iface s yv) xt t ok).run P w = (if s = t then pure (if ok then .tuple #[yv, .bool true] else yv) else (if ok then (do pure (.tuple #[← zeroValue t, .bool false])) else runtimePanic (.typeAssertion (some xt) (some s) t "")) : Sem Value).run P w := by
    unfold Instr.typeAssert;simp only[Sem.run_bind,yQ hu,Result.andThen_ok]
    all_goals (cases d<;>first|exact(hne _ rfl).elim|(by_cases hst:s=t<;>simp [hst]))
   rw[hrun];split at hx
   ·rename_i hb;have:=Nat.eq_of_beq_eq_true hb;subst this;unfold ret at hx;cases hx;simp only[if_true,Sem.run_pure];exact .pure h (.tup2 (.t _ _ hyv) (.t _ _ (.bool _)))
   ·rename_i hb;have:=Nat.eq_of_beq_eq_true hb;subst this;unfold ret at hx;cases hx;rw[if_pos rfl];exact .pure h (.t _ _ hyv)
   ·rename_i hb;have hne':=Nat.ne_of_beq_eq_false hb;rw[if_neg hne'];split at hx
    ·rename_i z hz;unfold ret at hx;cases hx
     obtain ⟨zz, h1, h2⟩ := fails hz (by cases d <;> first | trivial | exact (hne _ rfl).elim) (some xt) (some s) ""
     rw[h2];exact .pure h (.tup2 h1 (.t _ _ (.bool _)))
    cases hx
   cases hx
  ·have hun:u=.nilIface:=by
    have:=hv.of_tree;cases this;rfl
   subst hun;split at hx
   ·split at hx
    ·rename_i z hz;unfold ret at hx;cases hx
     obtain ⟨zz, h1, h2⟩ := fails hz (by cases d <;> first | trivial | exact (hne _ rfl).elim) (some xt) none ""
     have hrun:(Instr.typeAssert .nilIface xt t true).run P w=.ok (.tuple #[zz,.bool false]) w:=by
      rw[← h2];unfold Instr.typeAssert;simp only[Sem.run_bind,yQ hu,Result.andThen_ok]
      all_goals (cases d<;>first|exact(hne _ rfl).elim|rfl)
     rw[hrun];exact .pure h (.tup2 h1 (.t _ _ (.bool _)))
    cases hx
   cases hx
  ·rename_i s y;obtain⟨yv,rfl,hyv⟩:∃yv,u=.iface s yv∧VR γ g y yv:=by
    cases hv with
    |ifv _ _ v hh=>exact⟨v,rfl,hh⟩
   have hrun : (Instr.typeAssert (.iface s yv) xt t ok).run P w = (if s = t then pure (if ok then .tuple #[yv, .bool true] else yv) else (if ok then (do pure (.tuple #[← zeroValue t, .bool false])) else runtimePanic (.typeAssertion (some xt) (some s) t "")) : Sem Value).run P w := by
    unfold Instr.typeAssert;simp only[Sem.run_bind,yQ hu,Result.andThen_ok]
    all_goals (cases d<;>first|exact(hne _ rfl).elim|(by_cases hst:s=t<;>simp [hst]))
   rw[hrun];split at hx
   ·rename_i hb;have:=Nat.eq_of_beq_eq_true hb;subst this;unfold ret at hx;cases hx;simp only[if_true,Sem.run_pure];exact .pure h (.tup2 hyv (.t _ _ (.bool _)))
   ·rename_i hb;have:=Nat.eq_of_beq_eq_true hb;subst this;unfold ret at hx;cases hx;rw[if_pos rfl];exact .pure h hyv
   ·rename_i hb;have hne':=Nat.ne_of_beq_eq_false hb;rw[if_neg hne'];split at hx
    ·rename_i z hz;unfold ret at hx;cases hx
     obtain ⟨zz, h1, h2⟩ := fails hz (by cases d <;> first | trivial | exact (hne _ rfl).elim) (some xt) (some s) ""
     rw[h2];exact .pure h (.tup2 h1 (.t _ _ (.bool _)))
    cases hx
   cases hx
  cases hx
 cases hx
def zBo{γ:G}{g:Look}{x:AV}{u:Value}{b:Bool}(hv:VR γ g x u)(h:zCK x=some b):(b=true∧u=.nilIface)∨(b=false∧∃t v,u=.iface t v):=by
 unfold zCK at h;split at h<;>cases h
 ·cases hv with|t _ _ ht=>cases ht;exact .inl ⟨rfl,rfl⟩
 ·cases hv with|t _ _ ht=>cases ht;exact .inr ⟨rfl,_,_,rfl⟩
 ·cases hv;exact .inr ⟨rfl,_,_,rfl⟩
 cases hv;exact .inr ⟨rfl,_,_,rfl⟩
def zIr{P:Program}{t:TypeId}(h:zEn P t=true):∃ms,P.underlying t=some (.interface ms):=by
 unfold zEn at h;split at h
 ·rename_i ms hu;exact⟨ms,wZ hu⟩
 cases h
def zMZ {P:Program} {γ:G} {g:Look} {w:World} {t:TypeId} {x y:AV} {ux uy:Value} {b:Bool} (ox oy:Operand) (hx:VR γ g x ux) (hy:VR γ g y uy) (h:zEe P t (qK ox||qK oy) x y=some b) :
  (Op.equal t ux uy).run P w=.ok b w∧(∀(op:BinOp),(eqGuard op t ox oy ux uy).run P w=.ok () w) ∧
   Go.binOp .eql t ux uy=(do pure (.bool (← Op.equal t ux uy)))∧Go.binOp .neq t ux uy=(do pure (.bool (!(← Op.equal t ux uy)))):=by
 unfold zEe at h;split at h
 ·rename_i hi h1 h2;obtain⟨ms,hu⟩:=zIr hi;obtain⟨_,rfl⟩|⟨h0,_⟩:=zBo hx h1
  ·obtain⟨_,rfl⟩|⟨h0,_⟩:=zBo hy h2
   ·cases hc:(qK ox||qK oy) with
    |false=>rw[hc] at h;cases h
    |true =>
     rw[hc] at h;cases h;refine⟨by(show (Op.equalIn (9999+1) t _ _).run P w=_);generalize 9999=d;simp [Op.equalIn,underlying,hu],fun op=>?_,rfl,rfl⟩;unfold eqGuard;cases ox<;>cases oy<;>first|(simp [qK] at hc;done)|(cases op<;>rfl)
   cases h0
  cases h0
 ·rename_i hi h1 h2;obtain⟨ms,hu⟩:=zIr hi;cases h;obtain⟨_,rfl⟩|⟨h0,_⟩:=zBo hx h1
  ·obtain⟨h0,_⟩|⟨_,s,v,rfl⟩:=zBo hy h2
   ·cases h0
   refine⟨by(show (Op.equalIn (9999+1) t _ _).run P w=_);generalize 9999=d;simp [Op.equalIn,underlying,hu],fun op=>?_,rfl,rfl⟩;unfold eqGuard;cases op<;>rfl
  cases h0
 ·rename_i hi h1 h2;obtain⟨ms,hu⟩:=zIr hi;cases h;obtain⟨h0,_⟩|⟨_,s,v,rfl⟩:=zBo hx h1
  ·cases h0
  obtain⟨_,rfl⟩|⟨h0,_⟩:=zBo hy h2
  ·refine⟨by(show (Op.equalIn (9999+1) t _ _).run P w=_);generalize 9999=d;simp [Op.equalIn,underlying,hu],fun op=>?_,rfl,rfl⟩;unfold eqGuard;cases op<;>rfl
  cases h0
 cases h
def zRa {P:Program} {γ:G} {g:Look} {w:World} {op:BinOp} {t:TypeId} {x y v:AV} {ux uy:Value} (ox oy:Operand) (h:HR γ g w) (hx:VR γ g x ux) (hy:VR γ g y uy)
  (hb:zCu P op t (qK ox||qK oy) x y=some v):Good γ g w [] v ((do eqGuard op t ox oy ux uy;Go.binOp op t ux uy:Sem Value).run P w):=by
 unfold zCu at hb;split at hb
 ·exact zTT ox oy h hx hy hb
 split at hb
 ·rename_i b hn;cases hb;obtain⟨h1,h2,h3,h4⟩:=zMZ (w:=w) ox oy hx hy hn;rw[Sem.run_bind,h2,Result.andThen_ok,h3];simp only[Sem.run_bind,h1,Result.andThen_ok,Sem.run_pure];exact .pure h (.t _ _ (.bool _))
 ·rename_i b hn;cases hb;obtain⟨h1,h2,h3,h4⟩:=zMZ (w:=w) ox oy hx hy hn;rw[Sem.run_bind,h2,Result.andThen_ok,h4];simp only[Sem.run_bind,h1,Result.andThen_ok,Sem.run_pure];exact .pure h (.t _ _ (.bool _))
 cases hb
def zK0{x:AV}{out:Out}{p:Patch}(hx:zBM x=some (out,p)):∃t v,x=.t (.ifc t v)∧out=.pan x∧p=[]:=by
 unfold zBM at hx;split at hx
 ·cases hx;exact⟨_,_,rfl,rfl,rfl⟩
 cases hx
def zMY{P:Program}{γ:G}{g:Look}{w:World}{t:TypeId}{v:Tree}{u:Value}(hv:VR γ g (.t (.ifc t v)) u):(Instr.panic u).run P w=.halt (.panic u) w:=by
 have:=hv.of_tree;cases this with
 |ifc _ _ v hh=>rfl
def zIl(x y:ByteArray):(x==y)=decide (x=y):=by
 cases x with|mk x=>cases y with|mk y =>
 show (x==y)=_
 by_cases h:x=y
 ·subst h;simp
 simp [h]
def zJB{I:Imm}{kd:TypeDesc}{k k':Tree}{v v':Value}{b:Bool}(h:jU kd k k'=some b)(hk:TR I k v)(hk':TR I k' v'):Instr.sameNow kd v v'=some b:=by
 unfold jU at h;split at h
 ·cases hk;cases hk';split at h
  ·rename_i he;subst he;cases h;simp [Instr.sameNow]
  cases h
 ·rename_i a c;obtain⟨rfl,ha⟩:=hk.str_inv;obtain⟨rfl,hc⟩:=hk'.str_inv;cases h;have e:=zLX ha hc;simp only[Instr.sameNow];rw[← e]
  congr 1
  by_cases hh:a=c
  ·subst hh;have h1:(mkS a==mkS a)=true:=by
    rw[zIl];exact decide_eq_true rfl
   rw[h1];simp
  have h1:mkS a≠mkS c:=fun he=>by
   have:=congrArg ByteArray.toList he;have h2:=vC a c;rw[← e,this] at h2;simp [hh] at h2
  have h2:(mkS a==mkS c)=false:=by
   rw[zIl];exact decide_eq_false h1
  rw[h2,e,vC];simp [hh]
 ·cases hk;cases hk';cases h;simp [Instr.sameNow]
 cases h
def zNt{γ:G}{g:Look}{kd:TypeDesc}{k:Tree}{v:Value}(hk:TR γ.imm k v):∀ {es:List (Tree×AV)} {xs:List MapEntry} {i:Nat} {r:Option (Nat×AV)},es.length=xs.length →
  (∀(j:Nat) e x,es[j]?=some e→xs[j]?=some x→ERel γ g e x)→mfind kd k es i=some r →
  ∃r',Instr.findNow kd v xs i=some r'∧(match r,r' with
   |none,none=>True
   |some (j,a),some (j',u)=>j'=j∧i≤j∧VR γ g a u∧∃e x,es[j - i]?=some e∧xs[j - i]?=some x∧jU kd k e.1=some true
   |_,_=>False)
 |[],xs,i,r,hl,_,h=>by
  cases xs with
  |nil=>simp only[mfind,Option.some.injEq] at h;subst h;exact⟨none,rfl,trivial⟩
  |cons _ _=>cases hl
 |e::es,xs,i,r,hl,hr,h=>by
  cases xs with
  |nil=>cases hl
  |cons x xs =>
   have h0:=hr 0 e x rfl rfl;have hrest:∀(j:Nat) e x,es[j]?=some e→xs[j]?=some x→ERel γ g e x:=fun j e' x' he hx=>hr (j+1) e' x' (by simpa using he) (by simpa using hx)
   unfold mfind at h;unfold Instr.findNow;split at h
   ·rename_i hs;cases h;rw[zJB hs hk h0.1];exact⟨_,rfl,rfl,Nat.le_refl _,h0.2,e,x,by simp,by simp,hs⟩
   ·rename_i hs;rw[zJB hs hk h0.1];obtain⟨r',h1,h2⟩:=zNt hk (by simpa using hl) hrest h;refine⟨r',h1,?_⟩
    match r,r',h2 with
    |none,none,_=>trivial
    |some (j,a),some (j',u),⟨a1,a2,a3,e',x',a4,a5,a6⟩ =>
     refine⟨a1,by omega,a3,e',x',?_,?_,a6⟩
     ·have:j - i=(j - (i+1))+1:=by omega
      rw[this];simpa using a4
     have:j - i=(j - (i+1))+1:=by omega
     rw[this];simpa using a5
   cases h
def zGr {P:Program} {γ:G} {g:Look} {w:World} {kt:TypeId} {kd:TypeDesc} {k:Tree} {v:Value} (hu:und P kt=some kd) (hk:TR γ.imm k v) {es:List (Tree×AV)} {xs:Array MapEntry} {r:Option (Nat×AV)}
  (hl:xs.size=es.length) (hr:∀(j:Nat) e x,es[j]?=some e→xs[j]?=some x→ERel γ g e x) (h:mfind kd k es 0=some r) :
  ∃r',(Instr.findKey kt v xs.toList).run P w=.ok r' w∧(match r,r' with
   |none,none=>True
   |some (j,a),some (j',u)=>j'=j∧VR γ g a u∧∃e x,es[j]?=some e∧xs[j]?=some x∧jU kd k e.1=some true
   |_,_=>False):=by
 obtain⟨r',h1,h2⟩:=zNt (g:=g) hk (xs:=xs.toList) (i:=0) (by simpa using hl.symm) (fun j e x he hx=>hr j e x he (by simpa using hx)) h;refine⟨r',?_,?_⟩
 ·unfold Instr.findKey;simp only[Sem.run_bind,yQ hu,Result.andThen_ok,h1,Sem.run_pure]
 match r,r',h2 with
 |none,none,_=>trivial
 |some (j,a),some (j',u),⟨a1,_,a3,e',x',a4,a5,a6⟩=>exact⟨a1,a3,e',x',by simpa using a4,by simpa using a5,a6⟩
def zFx {P:Program} {I:Imm} {w:World} {kt:TypeId} {kd:TypeDesc} {k:Tree} {v:Value} (hu:und P kt=some kd) (hk:TR I k v) (hkk:zAZ kd k=true) (b:Bool) :
  (Instr.checkKey b 10000 kt v).run P w=.ok () w:=by
 show (Instr.checkKey b (9999+1) kt v).run P w=_
 generalize 9999=d;unfold Instr.checkKey;simp only[Sem.run_bind,yQ hu,Result.andThen_ok];unfold zAZ at hkk;split at hkk<;>first|(cases hkk;done)|skip
 ·cases hk;rfl
 ·obtain⟨rfl,_⟩:=hk.str_inv;rfl
 cases hk;rfl
def zIF {γ:G} {g:Look} {w:World} {x:AV} {u:Value} {es:List (Tree×AV)} (h:HR γ g w) (hv:VR γ g x u) (hx:vW g x=some es) :
  (u=.map none∧es=[])∨∃id b xs clock,x=.mp id∧g id=some (.map es)∧γ.β id=some b∧cur g id=none∧u=.map (some b)∧w.heap[b]?=some (.map xs clock)∧xs.size=es.length ∧
   (∀(j:Nat) e x,es[j]?=some e→xs[j]?=some x→ERel γ g e x)∧∀o,γ.imm b o=none:=by
 unfold vW at hx;split at hx
 ·cases hx;have:=hv.of_tree;cases this;exact .inl ⟨rfl,rfl⟩
 ·rename_i id;split at hx
  ·rename_i es' hg;cases hx;cases hv with
   |mp _ b hb hc =>
    obtain⟨o,ho,hor⟩:=h.obj id b hb;rw[hg] at ho;cases ho;obtain⟨⟨xs,clock,h1,h2,h3⟩,h4⟩:=hor;exact .inr ⟨id,b,xs,clock,rfl,hg,hb,hc,rfl,h1,h2,h3,h4⟩
  cases hx
 cases hx
def zSg {P:Program} {γ:G} {g:Look} {w:World} {t:TypeId} {x i v:AV} {ok:Bool} {u ui:Value} {p:Patch} (h:HR γ g w) (hv:VR γ g x u) (hi:VR γ g i ui)
  (hx:kQ P g t x i ok=some (.val v,p)):Good γ g w p v ((Instr.lookup t u ui ok).run P w):=by
 unfold kQ at hx;split at hx
 ·rename_i key elem es k hut hes;have hk:=hi.of_tree;split at hx
  ·rename_i kd hkd
   -- what is found
   have main:∀(xs:Array MapEntry) (r:Option (Nat×AV)),xs.size=es.length→(∀(j:Nat) e x,es[j]?=some e→xs[j]?=some x→ERel γ g e x) →
     zAZ kd k=true→mfind kd k es 0=some r→(match r with
      |some (_,a)=>ret (match (generalizing:=false) ok with
       |true=>.tup [a,.t (.bool true)]
       |false=>a)
      |none=>match zBS P elem with
       |some z=>ret (match (generalizing:=false) ok with
        |true=>.tup [z,.t (.bool false)]
        |false=>z)
       |none=>none)=some (.val v,p) →
     Good γ g w p v ((do
      Instr.checkKey xs.isEmpty 10000 key ui
      let (v,ok') ← match ← Instr.findKey key ui xs.toList with
       |some (_,v)=>pure (v,true)
       |none=>pure (← zeroValue elem,false)
      pure (if ok then .tuple #[v,.bool ok'] else v):Sem Value).run P w):=by
    intro xs r hl hr hkk hf hres;obtain⟨r',h1,h2⟩:=zGr (w:=w) hkd hk hl hr hf;simp only[Sem.run_bind,zFx hkd hk hkk,Result.andThen_ok,h1];cases r with
    |none =>
     cases r' with
     |some _=>exact h2.elim
     |none =>
      simp only at hres ⊢;split at hres
      ·rename_i z hz;obtain⟨zz,h3,h4⟩:=zMB (γ:=γ) (g:=g) (w:=w) hz;simp only[Sem.run_bind,h3,Result.andThen_ok,Sem.run_pure];unfold ret at hres;cases ok with
       |true=>cases hres;exact .pure h (.tup2 h4 (.t _ _ (.bool _)))
       |false=>cases hres;exact .pure h h4
      cases hres
    |some ja =>
     cases r' with
     |none=>exact h2.elim
     |some ju =>
      obtain⟨j,a⟩:=ja;obtain⟨j',uv⟩:=ju;obtain⟨_,a3,_⟩:=h2;simp only at hres ⊢;unfold ret at hres;cases ok with
      |true=>cases hres;exact .pure h (.tup2 a3 (.t _ _ (.bool _)))
      |false=>cases hres;exact .pure h a3
   have fin:∀(xs:Array MapEntry),xs.size=es.length→(∀(j:Nat) e x,es[j]?=some e→xs[j]?=some x→ERel γ g e x) →
     ((Instr.lookup t u ui ok).run P w=((do
      Instr.checkKey xs.isEmpty 10000 key ui
      let (v,ok') ← match ← Instr.findKey key ui xs.toList with
       |some (_,v)=>pure (v,true)
       |none=>pure (← zeroValue elem,false)
      pure (if ok then .tuple #[v,.bool ok'] else v):Sem Value).run P w))→Good γ g w p v ((Instr.lookup t u ui ok).run P w):=fun xs hl hr hxs=>by
    rw[hxs];split at hx
    ·rename_i j a hkk hf;exact main xs _ hl hr hkk hf hx
    ·rename_i hkk hf;exact main xs _ hl hr hkk hf hx
    cases hx
   rcases zIF h hv hes with ⟨rfl,rfl⟩|⟨id,b,xs,clock,rfl,hg,hb,hc,rfl,h1,h2,h3,h4⟩
   ·refine fin #[] rfl (fun j e x he=>by simp at he) ?_;unfold Instr.lookup;simp only[Sem.run_bind,yQ hut,Result.andThen_ok,Sem.run_pure]
    rfl
   refine fin xs h2 h3 ?_;have hobj:(getObj b).run P w=.ok (.map xs clock) w:=by
    unfold getObj;simp only[Sem.run,h1]
   unfold Instr.lookup;simp only[Sem.run_bind,yQ hut,hobj,Result.andThen_ok,Sem.run_pure]
   rfl
  cases hx
 cases hx
def zPU{I:Imm}{kd:TypeDesc}{k k':Tree}{v v':Value}(h:jU kd k k'=some true)(hk:TR I k v)(hk':TR I k' v'):Instr.sameBits 10000 v' v=true:=by
 unfold jU at h;split at h
 ·cases hk;cases hk';split at h
  ·rename_i he;subst he;have:=Option.some.inj h;simp at this;simp [Instr.sameBits,this]
  cases h
 ·rename_i a c;obtain⟨rfl,ha⟩:=hk.str_inv;obtain⟨rfl,hc⟩:=hk'.str_inv;have:=Option.some.inj h;rw[vC] at this;have:=of_decide_eq_true this;subst this;simp only[Instr.sameBits];rw[zIl];exact decide_eq_true rfl
 ·cases hk;cases hk';have:=Option.some.inj h;simp at this;simp [Instr.sameBits,this]
 cases h
def zLc {P:Program} {γ:G} {g:Look} {w:World} {t:TypeId} {x i y v:AV} {u ui uy:Value} {p:Patch} (h:HR γ g w) (hv:VR γ g x u) (hi:VR γ g i ui) (hy:VR γ g y uy)
  (hx:qM P g t x i y=some (.val v,p)):v=.nov∧zLi γ g w p ((Instr.mapUpdate t u ui uy).run P w):=by
 unfold qM at hx;split at hx
 ·rename_i key elem id k hut;have hk:=hi.of_tree;split at hx
  ·rename_i es hg;obtain⟨b,xs,clock,hb,hc,rfl,h1,h2,h3,h4⟩:∃b xs clock,γ.β id=some b∧cur g id=none∧u=.map (some b)∧w.heap[b]?=some (.map xs clock)∧xs.size=es.length ∧
     (∀(j:Nat) e x,es[j]?=some e→xs[j]?=some x→ERel γ g e x)∧∀o,γ.imm b o=none:=by
    rcases zIF (es:=es) h hv (by simp only[vW,hg]) with ⟨rfl,_⟩|⟨id',b,xs,clock,he,hg',hb,hc,hu,h1,h2,h3,h4⟩
    ·cases hv
    cases he;exact⟨b,xs,clock,hb,hc,hu,h1,h2,h3,h4⟩
   have hblt:b<w.heap.size:=h.lt hb;have hobj:(getObj b).run P w=.ok (.map xs clock) w:=by
    unfold getObj;simp only[Sem.run,h1]
   have hset:∀o,(setObj b o).run P w=.ok () { w with heap:=w.heap.setIfInBounds b o }:=fun o=>by
    unfold setObj;simp only[Sem.run,h1]
   -- the map is laid anew
   have lay:∀(es':List (Tree×AV)) (xs':Array MapEntry) (clock':Nat),xs'.size=es'.length→(∀(j:Nat) e x,es'[j]?=some e→xs'[j]?=some x→ERel γ g e x) →
     Ext γ g γ (upd g [(id,.map es')])∧HR γ (upd g [(id,.map es')]) { w with heap:=w.heap.setIfInBounds b (.map xs' clock') }∧Fr γ w γ { w with heap:=w.heap.setIfInBounds b (.map xs' clock') }:=by
    intro es' xs' clock' hl hr;have hcur:cur (upd g [(id,.map es')]) id=cur g id:=by unfold cur;rw[yS,if_pos rfl,hg]
    have hdim:dims (upd g [(id,.map es')]) id=dims g id:=by unfold dims;rw[yS,if_pos rfl,hg]
    have hc2:∀j,cur (upd g [(id,.map es')]) j=cur g j:=fun j=>by
     by_cases hj:j=id
     ·subst hj;exact hcur
     exact zAn hj
    have hd2:∀j,dims (upd g [(id,.map es')]) j=dims g j:=fun j=>by
     by_cases hj:j=id
     ·subst hj;exact hdim
     exact zBT hj
    have e:Ext γ g γ (upd g [(id,.map es')]):=⟨.refl _,fun j b hb hc'=>⟨hb,by rw[hc2];exact hc'⟩,fun j c hc'=>⟨c,by rw[hc2];exact hc',Nat.le_refl _,fun _=>⟨rfl,rfl,hd2 j⟩⟩⟩
    exact zFi (w':={ w with heap:=w.heap.setIfInBounds b (.map xs' clock') }) h hb h4 hcur hdim
     (fun b' hb'=>by rw[Array.getElem?_setIfInBounds,if_neg (fun e=>hb' e.symm)]) (by simp)
     ⟨⟨xs',clock',by rw[Array.getElem?_setIfInBounds,if_pos rfl,if_pos hblt],hl,fun j e' x' he hx=>(hr j e' x' he hx).mono e⟩,h4⟩
   split at hx
   ·rename_i kd hkd;split at hx
    ·rename_i j a hkk hf;cases hx;refine⟨rfl,?_⟩;obtain⟨r',hrun,hr'⟩:=zGr (w:=w) hkd hk h2 h3 hf;cases r' with
     |none=>exact hr'.elim
     |some ju =>
      obtain⟨j',uv⟩:=ju;obtain⟨rfl,_,e',x',he',hx',hs⟩:=hr';have hst:(Instr.keyThatStays (((xs[j']?).map (·.key)).getD ui) ui).run P w=.ok ui w:=by
       unfold Instr.keyThatStays;rw[hx'];simp only[Option.map_some,Option.getD_some];rw[if_pos (zPU hs hk (h3 j' e' x' he' hx').1)]
       rfl
      obtain⟨e1,e2,e3⟩:=lay (setN es j' (k,y)) (xs.modify j' fun e=>{ e with key:=ui,val:=uy }) clock (by rw[qP];simp [h2]) (fun i e x he hx=>by
       rw[qP] at he
       by_cases hij:i=j'
       ·subst hij;have hlt:=zR he';rw[List.getElem?_set_self hlt] at he;cases he;rw[Array.getElem?_modify,if_pos rfl,hx'] at hx;simp only[Option.map_some,Option.some.injEq] at hx;subst hx;exact⟨hk,hy⟩
       rw[List.getElem?_set_ne (fun h=>hij h.symm)] at he;rw[Array.getElem?_modify,if_neg (fun h=>hij h.symm)] at hx;exact h3 i e x he hx)
      refine⟨_,γ,?_,e1,e2,e3⟩;unfold Instr.mapUpdate;simp only[Sem.run_bind,yQ hut,hobj,Result.andThen_ok,zFx hkd hk hkk,hrun,hst,hset]
    ·rename_i hkk hf;cases hx;refine⟨rfl,?_⟩;obtain⟨r',hrun,hr'⟩:=zGr (w:=w) hkd hk h2 h3 hf;cases r' with
     |some _=>exact hr'.elim
     |none =>
      obtain⟨e1,e2,e3⟩:=lay (es++[(k,y)]) (xs.push { key:=ui,val:=uy,born:=clock }) (clock+1) (by simp [h2]) (fun i e x he hx=>by
       rw[Array.getElem?_push] at hx
       by_cases hij:i=xs.size
       ·rw[if_pos hij] at hx;cases hx;rw[List.getElem?_append_right (by omega)] at he;have:i - es.length=0:=by omega
        rw[this] at he;cases he;exact⟨hk,hy⟩
       rw[if_neg hij] at hx;have hlt:i<es.length:=by
        rcases Nat.lt_or_ge i xs.size with h'|h'
        ·omega
        rw[Array.getElem?_eq_none h'] at hx;cases hx
       rw[List.getElem?_append_left hlt] at he;exact h3 i e x he hx)
      refine⟨_,γ,?_,e1,e2,e3⟩;unfold Instr.mapUpdate;simp only[Sem.run_bind,yQ hut,hobj,Result.andThen_ok,zFx hkd hk hkk,hrun,hset]
    cases hx
   cases hx
  cases hx
 cases hx
def zPF {P:Program} {γ:G} {g:Look} {w:World} {nid:Nat} (t:TypeId) (h:HR γ g w) (hn:γ.β nid=none) (hg:g nid=none) :
  Good γ g w [(nid,.map [])] (.mp nid) ((Instr.makeMap t none).run P w):=by
 have hrun:(Instr.makeMap t none).run P w=.ok (.map (some w.heap.size)) (w.alloc (.map #[] 0)):=by
  simp [Instr.makeMap]
 rw[hrun];obtain⟨h1,h2,h3⟩:=zC9 (n:=0) (w':=w.alloc (.map #[] 0)) (o:=.map []) (X:=.map #[] 0) hn hg h rfl
  ⟨⟨#[],0,by show (w.heap.push (.map #[] 0))[w.heap.size]?=_;rw[Array.getElem?_push];simp,rfl,fun j e x he=>by simp at he⟩,fun o=>zAe h o⟩
 refine⟨_,_,_,rfl,h1,h2,.mp nid _ (by simp [G.new]) ?_,h3⟩;unfold cur;rw[yS,if_pos rfl]
end Go.Ab
