/- Lemmas. -/
import Derived.Calls
import Derived.Laws.World
import Derived.Laws.Sem
import Derived.Laws.Cells
import Derived.Laws.IdiomCopy
import Derived.Laws.AppendOwn
import Derived.Laws.MakeOwn
import Derived.Laws.StructEq
import Derived.Laws.Cover3
import Derived.Laws.BytesArg
import Derived.Laws.IdiomStrings
set_option maxRecDepth 1000000
set_option maxHeartbeats 40000000
set_option linter.all false
namespace Go.Ab
inductive Tree where
 |bool (b:Bool)
 |int (k:IntKind) (n:Int)
 |str (s:List Nat)
 |sl (nl clip:Bool) (es:List (List Tree))
 |agg (cs:List Tree)
 |ifc (t:TypeId) (v:Tree)
 |nilifc
 |fn (f:FuncId)
 |nilfn
 |nilptr
 |nilmap
 deriving Inhabited
inductive AV where
 |t (x:Tree)
 |nov
 |unk
 |box (id off:Nat)
 |el (id ver i off:Nat)
 |rp (cs:List Tree)
 |hs (id ver:Nat)
 |hsub (id ver lo len:Nat)
 |agg (cs:List AV)
 |fn (f:FuncId) (first captured:List AV)
 |tup (vs:List AV)
 |mp (id:Nat)
 |yld (id:Nat)
 |dfr (ds:List AV)
 |rnd
 |ifv (t:TypeId) (v:AV)
 |ifx
 deriving Inhabited
structure LoopC where
 k:Nat
 kf:Nat
 ps:List Nat
 asg:Code
 body:Code
 deriving Inhabited
inductive Obj where
 |box (cs:List AV)
 |arr (s ver:Nat) (frz:Bool) (es:List (List Tree))
 |marr (s ver:Nat) (es:List (List AV))
 |siter (s:List Nat) (pos:Nat)
 |map (es:List (Tree×AV))
 |loop (c:LoopC) (T:List (Nat×AV)) (busy:Nat) (jump:Option Code)
 |dead
 deriving Inhabited
abbrev Heap:=List Obj
abbrev Look:=Nat→Option Obj
abbrev Patch:=List (Nat×Obj)
inductive Out where
 |val (v:AV)
 |pan (v:AV)
 deriving Inhabited
structure Cfg where
 P:Program
 byRef:FuncId→Bool
 thaw:FuncId→Bool
 keep:FuncId→Nat→Option (List Nat)
 prim:FuncId→List AV→Option AV
abbrev Oracle:=FuncId→List AV→Heap→Option (Out×Heap)
def nth{α:Type}:List α→Nat→Option α
 |[],_=>none
 |a::_,0=>some a
 |_::l,n+1=>nth l n
def setN{α:Type}:List α→Nat→α→List α
 |[],_,_=>[]
 |_::l,0,x=>x::l
 |a::l,n+1,x=>a::setN l n x
def idx{α:Type}(l:List α):Int→Option α
 |.ofNat n=>nth l n
 |.negSucc _=>none
def lit1:Value→Option Tree
 |.bool b=>some (.bool b)
 |.int k n=>some (.int k n)
 |.string s=>some (.str (s.data.toList.map UInt8.toNat))
 |.pointer none=>some .nilptr
 |.slice none 0 0=>some (.sl true true [])
 |.map none=>some .nilmap
 |.func (.func f) a b=>if a.isEmpty&&b.isEmpty then some (.fn f) else none
 |.nilFunc=>some .nilfn
 |.nilIface=>some .nilifc
 |_=>none
def lits:List Value→Option (List Tree)
 |[]=>some []
 |v::vs=>match lit1 v with
  |none=>none
  |some x=>match lits vs with
   |none=>none
   |some xs=>some (x::xs)
def lit(v:Value):AV :=
 match v with
 |.agg cs=>match lits cs.toList with
  |some ts=>.t (.agg ts)
  |none=>.unk
 |v=>match lit1 v with
  |some x=>.t x
  |none=>.unk
def scal:Tree→Option Value
 |.bool b=>some (.bool b)
 |.int k n=>some (.int k n)
 |_=>none
def vI:Value→Option Tree
 |.bool b=>some (.bool b)
 |.int k n=>some (.int k n)
 |_=>none
def zLh:Sem Value→Option Tree
 |.pure v=>vI v
 |_=>none
def trees:List AV→Option (List Tree)
 |[]=>some []
 |.t x::vs=>match trees vs with
  |none=>none
  |some xs=>some (x::xs)
 |_=>none
def mkAgg(cs:List AV):AV :=
 match trees cs with
 |some ts=>.t (.agg ts)
 |none=>.agg cs
def zW:AV→Option (List AV)
 |.t (.agg ts)=>some (ts.map .t)
 |.agg cs=>some cs
 |_=>none
def cellsOf:AV→Option (List AV)
 |.t (.agg ts)=>some (ts.map .t)
 |.agg cs=>some cs
 |.unk|.nov|.tup _|.dfr _|.rnd=>none
 |v=>some [v]
def info(P:Program)(t:TypeId):Option TypeInfo:=nth P.types.toList t
def und(P:Program)(t:TypeId):Option TypeDesc :=
 match info P t with
 |some i=>match i.desc with
  |.named _ u=>match info P u with
   |some j=>some j.desc
   |none=>none
  |d=>some d
 |none=>none
def sizeOf?(P:Program)(t:TypeId):Option Nat :=
 match info P t with
 |some i=>some i.size
 |none=>none
def agg?(P:Program)(t:TypeId):Option Bool :=
 match und P t with
 |some (.struct _)|some (.array _ _)=>some true
 |some _=>some false
 |none=>none
def cut{α:Type}(l:List α)(lo n:Nat):Option (List α) :=
 if lo+n≤l.length then some ((l.drop lo).take n) else none
def mem(n:Nat):List Nat→Bool
 |[]=>false
 |a::l=>match Nat.beq a n with
  |true=>true
  |false=>mem n l
def place(n:Nat):List Nat→Nat
 |[]=>0
 |a::l=>match Nat.beq a n with
  |true=>0
  |false=>place n l+1
def splice{α:Type}(l:List α)(lo:Nat)(new:List α):List α:=l.take lo++new++l.drop (lo+new.length)
def loadCells(g:Look)(n:Nat):AV→Option (List AV)
 |.box id off=>match g id with
  |some (.box cs)=>cut cs off n
  |_=>none
 |.el id ver i off=>match g id with
  |some (.arr _ hA _ es)=>if ver=hA then match nth es i with
    |some e=>match cut e off n with
     |some cs=>some (cs.map .t)
     |none=>none
    |none=>none
   else none
  |some (.marr _ hA es)=>if ver=hA then match nth es i with
    |some e=>cut e off n
    |none=>none
   else none
  |_=>none
 |.rp cs=>match cut cs 0 n with
  |some cs=>some (cs.map .t)
  |none=>none
 |_=>none
def load(P:Program)(g:Look)(t:TypeId)(a:AV):Option AV :=
 match agg? P t with
 |some true=>match sizeOf? P t with
  |some n=>match loadCells g n a with
   |some cs=>some (mkAgg cs)
   |none=>none
  |none=>none
 |some false=>match loadCells g 1 a with
  |some [v]=>some v
  |_=>none
 |none=>none
def yC(n:Nat):AV→Option AV
 |.box id off=>some (.box id (off+n))
 |.el id ver i off=>some (.el id ver i (off+n))
 |.rp cs=>if n≤cs.length then some (.rp (cs.drop n)) else none
 |_=>none
def catMap{α β:Type}(f:α→List β):List α→List β
 |[]=>[]
 |a::l=>f a++catMap f l
def elems(g:Look):AV→Option (List (List Tree))
 |.t (.sl _ _ es)=>some es
 |.hs id ver=>match g id with
  |some (.arr _ hA _ es)=>if ver=hA then some es else none
  |_=>none
 |.hsub id ver lo len=>match g id with
  |some (.arr _ hA _ es)=>if ver=hA then cut es lo len else none
  |_=>none
 |_=>none
def lenOf(g:Look):AV→Option Nat
 |.t (.sl _ _ es)=>some es.length
 |.hs id ver=>match g id with
  |some (.arr _ hA _ es)=>if ver=hA then some es.length else none
  |some (.marr _ hA es)=>if ver=hA then some es.length else none
  |_=>none
 |.hsub _ _ _ len=>some len
 |_=>none
def view(g:Look):AV→AV
 |.hs id ver=>match elems g (.hs id ver) with
  |some es=>.t (.sl false false es)
  |none=>.hs id ver
 |.hsub id ver lo len=>match elems g (.hsub id ver lo len) with
  |some es=>.t (.sl false false es)
  |none=>.hsub id ver lo len
 |.agg cs=>mkAgg (cs.map fun c=>match c with
  |.hs id ver=>(match elems g (.hs id ver) with
   |some es=>.t (.sl false false es)
   |none=>.hs id ver)
  |.hsub id ver lo len=>(match elems g (.hsub id ver lo len) with
   |some es=>.t (.sl false false es)
   |none=>.hsub id ver lo len)
  |c=>c)
 |v=>v
def yO(g:Look):AV→List Nat
 |.hs id ver=>match elems g (.hs id ver) with
  |some _=>[id]
  |none=>[]
 |.hsub id ver lo len=>match elems g (.hsub id ver lo len) with
  |some _=>[id]
  |none=>[]
 |.agg cs=>catMap (fun c=>match c with
  |.hs id ver=>(match elems g (.hs id ver) with
   |some _=>[id]
   |none=>[])
  |.hsub id ver lo len=>(match elems g (.hsub id ver lo len) with
   |some _=>[id]
   |none=>[])
  |_=>[]) cs
 |_=>[]
def xF(g:Look):List Nat→Patch
 |[]=>[]
 |id::ids=>match g id with
  |some (.arr s ver _ es)=>(id,.arr s ver true es)::xF g ids
  |_=>xF g ids
def fresh(g:Look)(id ver:Nat):Bool :=
 match g id with
 |some (.arr _ hA _ _)=>Nat.beq ver hA
 |some (.marr _ hA _)=>Nat.beq ver hA
 |_=>false
def refs(g:Look):Nat→AV→List Nat
 |0,_=>[]
 |d+1,v=>match v with
  |.box id _=>[id]
  |.el id ver _ _=>bif fresh g id ver then [id] else []
  |.hs id ver=>bif fresh g id ver then [id] else []
  |.hsub id ver _ _=>bif fresh g id ver then [id] else []
  |.agg cs=>catMap (refs g d) cs
  |.fn _ a b=>catMap (refs g d) a++catMap (refs g d) b
  |.tup vs=>catMap (refs g d) vs
  |.mp id=>[id]
  |.yld id=>[id]
  |.dfr vs=>catMap (refs g d) vs
  |.ifv _ v=>refs g d v
  |_=>[]
def depth:Nat:=5
def wT(g:Look)(vs:List AV):List Nat:=catMap (refs g depth) vs
def vS(g:Look):Obj→List Nat
 |.box cs=>wT g cs
 |.marr _ _ es=>catMap (wT g) es
 |.map es=>catMap (fun e=>refs g depth e.2) es
 |.loop _ T _ _=>catMap (fun e=>refs g depth e.2) T
 |_=>[]
def reach(g:Look):Nat→List Nat→List Nat→Option (List Nat)
 |0,_,_=>none
 |_+1,[],acc=>some acc
 |n+1,id::todo,acc =>
  match mem id acc with
  |true=>reach g n todo acc
  |false=>match g id with
   |some o=>reach g n (vS g o++todo) (acc++[id])
   |none=>none
def ren(g:Look)(ids:List Nat):Nat→AV→AV
 |0,_=>.unk
 |d+1,v=>match v with
  |.box id off=>bif mem id ids then .box (place id ids) off else .unk
  |.el id ver i off=>bif fresh g id ver&&mem id ids then .el (place id ids) 0 i off else .unk
  |.hs id ver=>bif fresh g id ver&&mem id ids then .hs (place id ids) 0 else .unk
  |.hsub id ver lo len=>bif fresh g id ver&&mem id ids then .hsub (place id ids) 0 lo len else .unk
  |.agg cs=>.agg (cs.map (ren g ids d))
  |.fn f a b=>.fn f (a.map (ren g ids d)) (b.map (ren g ids d))
  |.tup vs=>.tup (vs.map (ren g ids d))
  |.mp id=>bif mem id ids then .mp (place id ids) else .unk
  |.yld id=>bif mem id ids then .yld (place id ids) else .unk
  |.dfr vs=>.dfr (vs.map (ren g ids d))
  |.ifv t v=>.ifv t (ren g ids d v)
  |v=>v
def renL(g:Look)(ids:List Nat)(vs:List AV):List AV:=vs.map (ren g ids depth)
def renO(g:Look)(ids:List Nat):Obj→Obj
 |.box cs=>.box (renL g ids cs)
 |.arr s _ frz es=>.arr s 0 frz es
 |.marr s _ es=>.marr s 0 (es.map (renL g ids))
 |.map es=>.map (es.map fun e=>(e.1,ren g ids depth e.2))
 |.loop c T b j=>.loop c (T.map fun e=>(e.1,ren g ids depth e.2)) b j
 |o=>o
def sub1(g:Look)(ids:List Nat):List Nat→Option Heap
 |[]=>some []
 |id::l=>match g id with
  |none=>none
  |some o=>match sub1 g ids l with
   |none=>none
   |some os=>some (renO g ids o::os)
def sub(g:Look)(ids:List Nat):Option Heap:=sub1 g ids ids
def upto:Nat→List Nat→List Nat
 |0,acc=>acc
 |n+1,acc=>upto n (n::acc)
def canon(h:Heap)(m:Nat)(vs:List AV):Option (List AV×Heap) :=
 let g:Look:=nth h
 match reach g 100000 (catMap (vS g) (h.take m)++wT g vs) (upto m []) with
 |none=>none
 |some ids=>match sub g ids with
  |none=>none
  |some h'=>some (renL g ids vs,h')
def getN(l:List Nat)(i:Nat):Nat:=(nth l i).getD 0
structure Way where
 g:Look
 m:Nat
 ids:List Nat
 vers:List Nat
 nid:Nat
def Way.id(y:Way)(k:Nat):Nat:=bif Nat.blt k y.m then getN y.ids k else y.nid+(k - y.m)
def Way.ver(y:Way)(k:Nat):Nat:=bif Nat.blt k y.m then getN y.vers k else 0
def back(y:Way):Nat→AV→AV
 |0,_=>.unk
 |d+1,v=>match v with
  |.box k off=>.box (y.id k) off
  |.el k ver i off=>bif fresh y.g k ver then .el (y.id k) (y.ver k) i off else .unk
  |.hs k ver=>bif fresh y.g k ver then .hs (y.id k) (y.ver k) else .unk
  |.hsub k ver lo len=>bif fresh y.g k ver then .hsub (y.id k) (y.ver k) lo len else .unk
  |.agg cs=>.agg (cs.map (back y d))
  |.fn f a b=>.fn f (a.map (back y d)) (b.map (back y d))
  |.tup vs=>.tup (vs.map (back y d))
  |.mp k=>.mp (y.id k)
  |.yld k=>.yld (y.id k)
  |.dfr vs=>.dfr (vs.map (back y d))
  |.ifv t v=>.ifv t (back y d v)
  |v=>v
def zC3(y:Way)(vs:List AV):List AV:=vs.map (back y depth)
def zB4(y:Way)(ver:Nat):Obj→Obj
 |.box cs=>.box (zC3 y cs)
 |.arr s _ frz es=>.arr s ver frz es
 |.marr s _ es=>.marr s ver (es.map (zC3 y))
 |.map es=>.map (es.map fun e=>(e.1,back y depth e.2))
 |.loop c T b j=>.loop c (T.map fun e=>(e.1,back y depth e.2)) b j
 |o=>o
def zCq:Option Obj→Nat
 |some (.arr _ ver _ _)=>ver+1
 |some (.marr _ ver _)=>ver+1
 |_=>0
def vE(y:Way):Nat→List Obj→Patch
 |_,[]=>[]
 |k,o::os=>(y.id k,zB4 y (y.ver k) o)::vE y (k+1) os
def zBm:Tree→Bool
 |.sl _ _ _=>false
 |.agg cs=>cs.all fun c=>match c with
  |.sl _ _ _|.agg _|.ifc _ _=>false
  |_=>true
 |.ifc _ v=>match v with
  |.sl _ _ _|.agg _|.ifc _ _=>false
  |_=>true
 |_=>true
def plain:AV→Bool
 |.t x=>zBm x
 |.nov=>true
 |.ifx=>true
 |.tup vs=>vs.all fun v=>match v with
  |.t x=>zBm x
  |.nov=>true
  |.ifx=>true
  |_=>false
 |_=>false
def kR(g:Look):AV→AV
 |.tup vs=>.tup (vs.map (view g))
 |v=>view g v
abbrev Env:=List (Nat×AV)
def get(T:Env)(t:Nat):AV :=
 match T with
 |[]=>.unk
 |(u,v)::T=>match Nat.beq u t with
  |true=>v
  |false=>get T t
def zN(T:Env):Operand→AV
 |.tmp t=>get T t
 |.const v=>lit v
 |.global _=>.unk
 |.func f=>.t (.fn f)
def bytesLess:List Nat→List Nat→Bool
 |_,[]=>false
 |[],_::_=>true
 |a::x,b::y=>Nat.blt a b||(Nat.beq a b&&bytesLess x y)
def beqL:List Nat→List Nat→Bool
 |[],[]=>true
 |a::x,b::y=>match Nat.beq a b with
  |true=>beqL x y
  |false=>false
 |_,_=>false
def zOm(op:BinOp)(x y:List Nat):Option Tree :=
 match op with
 |.add=>if x.length+y.length<4611686018427387904 then some (.str (x++y)) else none
 |.eql=>some (.bool (beqL x y))
 |.neq=>some (.bool !(beqL x y))
 |.lss=>some (.bool (bytesLess x y))
 |.leq=>some (.bool (bytesLess x y||beqL x y))
 |.gtr=>some (.bool !(bytesLess x y||beqL x y))
 |.geq=>some (.bool !(bytesLess x y))
 |_=>none
def part(P:Program)(t:TypeId)(cs:List AV)(off:Nat):Option AV :=
 match agg? P t with
 |some true=>match sizeOf? P t with
  |some n=>match cut cs off n with
   |some l=>some (mkAgg l)
   |none=>none
  |none=>none
 |some false=>nth cs off
 |none=>none
def zF5(P:Program)(t:TypeId)(cs:List Tree)(off:Nat):Option Tree :=
 match agg? P t with
 |some true=>match sizeOf? P t with
  |some n=>match cut cs off n with
   |some l=>some (.agg l)
   |none=>none
  |none=>none
 |some false=>nth cs off
 |none=>none
def equal(P:Program):Nat→TypeId→Tree→Tree→Option Bool
 |0,_,_,_=>none
 |d+1,t,x,y =>
  match und P t,x,y with
  |some .bool,.bool a,.bool b=>some (a==b)
  |some (.int _),.int k a,.int k' b=>if k=k' then some (a==b) else none
  |some .string,.str a,.str b=>some (beqL a b)
  |some (.struct fields),.agg xs,.agg ys =>
   if P.stoodInHeld t then none else
   eqFields (fun u x y=>equal P d u x y) xs ys fields.toList
  |_,_,_=>none
 where
 eqFields (eq:TypeId→Tree→Tree→Option Bool) (xs ys:List Tree):List Field→Option Bool
  |[]=>some true
  |f::fs =>
   if f.name = "_" then eqFields eq xs ys fs else
   match zF5 P f.type xs f.offset,zF5 P f.type ys f.offset with
   |some x,some y=>match eq f.type x y with
    |some true=>eqFields eq xs ys fs
    |some false=>some false
    |none=>none
   |_,_=>none
def zGD:AV→Option (Nat×Bool)
 |.t .nilfn=>some (0,true)
 |.t (.fn _)=>some (0,false)
 |.fn _ _ _=>some (0,false)
 |.t .nilptr=>some (1,true)
 |.box _ _=>some (1,false)
 |.el _ _ _ _=>some (1,false)
 |.rp _=>some (1,false)
 |.t (.sl nl _ _)=>some (2,nl)
 |.hs _ _=>some (2,false)
 |.hsub _ _ _ _=>some (2,false)
 |.t .nilmap=>some (3,true)
 |.mp _=>some (3,false)
 |_=>none
def zOn(P:Program)(t:TypeId):Option Nat :=
 match und P t with
 |some (.func _ _ _)=>some 0
 |some (.pointer _)=>some 1
 |some (.slice _)=>some 2
 |some (.map _ _)=>some 3
 |_=>none
def zMa(P:Program)(t:TypeId)(x y:AV):Option Bool :=
 match zOn P t,zGD x,zGD y with
 |some k,some (a,m),some (b,n) =>
  match Nat.beq k a&&Nat.beq k b,m,n with
  |true,true,n=>some n
  |true,false,true=>some false
  |_,_,_=>none
 |_,_,_=>none
def zCL(P:Program):Nat→TypeId→Bool
 |0,_=>true
 |d+1,t=>match und P t with
  |some (.interface ms)=>!ms.isEmpty
  | some (.struct fs) => fs.toList.any fun f => f.name != "_" && zCL P d f.type
  |some (.array _ e)=>zCL P d e
  |some _=>false
  |none=>true
def binop(P:Program)(op:BinOp)(t:TypeId)(x y:AV):Option AV :=
 match x,y with
 |.t (.int k a),.t (.int k' b)=>(zLh (Go.binOp op t (.int k a) (.int k' b))).map .t
 |.t (.str a),.t (.str b)=>(zOm op a b).map .t
 |.t (.bool a),.t (.bool b)=>match op,und P t with
  |.eql,some .bool=>some (.t (.bool (a==b)))
  |.neq,some .bool=>some (.t (.bool !(a==b)))
  |_,_=>none
 |.t (.agg xs),.t (.agg ys) =>
  if zCL P 50 t then none else match op with
  |.eql=>(equal P 100 t (.agg xs) (.agg ys)).map fun b=>.t (.bool b)
  |.neq=>(equal P 100 t (.agg xs) (.agg ys)).map fun b=>.t (.bool !b)
  |_=>none
 |x,y=>match op,zMa P t x y with
  |.eql,some b=>some (.t (.bool b))
  |.neq,some b=>some (.t (.bool !b))
  |_,_=>none
def zCu:AV→Option Bool
 |.t .nilifc=>some true
 |.t (.ifc _ _)=>some false
 |.ifv _ _=>some false
 |.ifx=>some false
 |_=>none
def zD6(P:Program)(t:TypeId):Bool :=
 match und P t with
 |some (.interface _)=>true
 |_=>false
def uY:Operand→Bool
 |.const _=>true
 |_=>false
def zD4(P:Program)(t:TypeId)(c:Bool)(x y:AV):Option Bool :=
 match zD6 P t,zCu x,zCu y with
 |true,some true,some true=>bif c then some true else none
 |true,some true,some false=>some false
 |true,some false,some true=>some false
 |_,_,_=>none
def zCe(P:Program)(op:BinOp)(t:TypeId)(c:Bool)(x y:AV):Option AV :=
 match zCu x with
 |none=>binop P op t x y
 |some _=>match op,zD4 P t c x y with
  |.eql,some b=>some (.t (.bool b))
  |.neq,some b=>some (.t (.bool !b))
  |_,_=>none
def unop(op:UnOp)(x:AV):Option AV :=
 match x with
 |.t x=>match scal x with
  |some v=>(zLh (Op.unary op v)).map .t
  |none=>none
 |_=>none
def zDG:List (List Tree)→Option (List Nat)
 |[]=>some []
 |[.int .u8 n]::es=>match zDG es with
  |some bs=>some (n.toNat % 256::bs)
  |none=>none
 |_=>none
def byteCells(s:List Nat):List (List Tree):=s.map fun b=>[.int .u8 (.ofNat b)]
def yN(P:Program):List (Nat×Nat)→List AV→List (Nat×AV)→Option (List AV)
 |_,cells,[]=>some cells
 |places,cells,(i,v)::hE=>match nth places i with
  |none=>none
  |some (off,size)=>match cellsOf v with
   |some cs=>if cs.length=size∧off+size≤cells.length then yN P places (splice cells off cs) hE else none
   |none=>none
def zeroCells(P:Program)(t:TypeId):Option (List AV) :=
 match info P t with
 |some i=>match i.zero with
  |some z=>match lit z with
   |.t (.agg ts)=>some (ts.map .t)
   |.t x=>some [.t x]
   |_=>none
  |none=>none
 |none=>none
def zFn(P:Program):List Field→Option (List (Nat×Nat))
 |[]=>some []
 |f::fs=>match sizeOf? P f.type with
  |none=>none
  |some n=>match zFn P fs with
   |none=>none
   |some l=>some ((f.offset,n)::l)
def build(P:Program)(t:TypeId)(parts:List (Nat×AV)):Option AV :=
 match zeroCells P t with
 |none=>none
 |some zero=>match und P t with
  |some (.struct fields)=>match zFn P fields.toList with
   |some places=>(yN P places zero parts).map mkAgg
   |none=>none
  |some (.array n elem)=>match sizeOf? P elem with
   |some size=>(yN P ((List.range n).map fun i=>(i * size,size)) zero parts).map mkAgg
   |none=>none
  |_=>none
def qJ:List (List AV)→Option (List (List Tree))
 |[]=>some []
 |e::es=>match trees e with
  |none=>none
  |some x=>match qJ es with
   |none=>none
   |some xs=>some (x::xs)
def zAf(s:Nat)(es:List (List AV)):Obj :=
 match qJ es with
 |some es=>.arr s 0 false es
 |none=>.marr s 0 es
def vZ:AV→Bool
 |.t (.agg _)=>false
 |.t _|.box _ _|.el _ _ _ _|.rp _|.hs _ _|.hsub _ _ _ _|.fn _ _ _|.mp _|.yld _|.ifv _ _|.ifx=>true
 |_=>false
def wI(n:Nat)(zero:List AV)(parts:List (Nat×AV)):Option (List (List AV)) :=
 go (List.replicate n zero) parts
 where
 go (es:List (List AV)):List (Nat×AV)→Option (List (List AV))
  |[]=>some es
  |(i,v)::hE=>match cellsOf v with
   |some cs=>if i<es.length∧cs.length=zero.length∧cs.all vZ=true then go (setN es i cs) hE else none
   |none=>none
abbrev Res:=Option (Out×Patch)
def ret(v:AV):Res:=some (.val v,[])
def retO(o:Option AV):Res:=match o with
 |some v=>some (.val v,[])
 |none=>none
def uS(g:Look)(v:AV):AV×Patch:=(view g v,xF g (yO g v))
def indexAddr(P:Program)(g:Look)(t:TypeId)(x:AV)(i:Int):Option AV :=
 match und P t,x with
 |some (.slice elem),.t (.sl _ _ es)=>match sizeOf? P elem,idx es i with
  |some n,some e=>if e.length=n then some (.rp e) else none
  |_,_=>none
 |some (.slice elem),.hs id ver=>match g id,sizeOf? P elem with
  |some (.arr s hA _ es),some n=>if ver=hA∧s=n∧0≤i∧i<es.length then some (.el id ver i.toNat 0) else none
  |some (.marr s hA es),some n=>if ver=hA∧s=n∧0≤i∧i<es.length then some (.el id ver i.toNat 0) else none
  |_,_=>none
 |some (.slice elem),.hsub id ver lo len=>match g id,sizeOf? P elem with
  |some (.arr s hA _ es),some n=>if ver=hA∧s=n∧0≤i∧i<len∧lo+len≤es.length then some (.el id ver (lo+i.toNat) 0) else none
  |_,_=>none
 |some (.array n elem),x=>match sizeOf? P elem with
  |some s=>if 0≤i∧i<n then yC (i.toNat * s) x else none
  |none=>none
 |_,_=>none
def index(P:Program)(t:TypeId)(x:AV)(i:Int):Option AV :=
 match und P t,x with
 |some .string,.t (.str s)=>match idx s i with
  |some b=>some (.t (.int .u8 (.ofNat b)))
  |none=>none
 |some (.array n elem),x=>match sizeOf? P elem with
  |some s=>match zW x with
   |some cs=>if 0≤i∧i<n then part P elem cs (i.toNat * s) else none
   |none=>none
  |none=>none
 |_,_=>none
def jQ(n:Nat):List (List Tree)→Bool
 |[]=>true
 |e::_=>Nat.beq e.length n
def slice(P:Program)(g:Look)(t:TypeId)(x:AV)(lo hi mx:Option Int):Option AV :=
 match und P t,x with
 |some .string,.t (.str s) =>
  let l:=lo.getD 0
  let h:=hi.getD s.length
  if mx.isNone∧0≤l∧l≤h∧h≤s.length then some (.t (.str ((s.take h.toNat).drop l.toNat))) else none
 |some (.slice elem),.t (.sl nl clip es)=>match sizeOf? P elem with
  |some n =>
   let l:=lo.getD 0
   let h:=hi.getD es.length
   if 0≤l∧l≤h∧h≤es.length∧jQ n es=true then
    match mx with
    |none=>some (.t (.sl nl (clip&&h==es.length) ((es.take h.toNat).drop l.toNat)))
    |some m=>if m=h∧hi.isSome=true then some (.t (.sl nl true ((es.take h.toNat).drop l.toNat))) else none
   else none
  |none=>none
 |some (.slice elem),.hs id ver=>match g id,sizeOf? P elem with
  |some (.arr s hA _ es),some n =>
   let l:=lo.getD 0
   let h:=hi.getD es.length
   if ver=hA∧s=n∧0≤l∧l≤h∧h≤es.length then
    match mx with
    |none=>some (.hsub id ver l.toNat (h.toNat - l.toNat))
    |some m=>if m=h∧h=l∧hi.isSome=true then some (.t (.sl false true [])) else none
   else none
  |_,_=>none
 |some (.slice elem),.hsub id ver lo0 len=>match g id,sizeOf? P elem with
  |some (.arr s hA _ es),some n =>
   let l:=lo.getD 0
   let h:=hi.getD len
   if ver=hA∧s=n∧lo0+len≤es.length∧0≤l∧l≤h∧h≤len∧mx.isNone=true then some (.hsub id ver (lo0+l.toNat) (h.toNat - l.toNat)) else none
  |_,_=>none
 |_,_=>none
def zON(i:TypeInfo):Bool :=
 match i.zero with
 |some z=>Nat.beq z.cells.toList.length i.size
 |none=>false
def small(P:Program)(t:TypeId)(n:Nat):Bool :=
 match info P t with
 |some i=>i.bytes≤8192&&n<4294967296&&zON i
 |none=>false
def added(g:Look):AV→Option (List (List Tree))
 |.t (.str s)=>some (byteCells s)
 |v=>elems g v
def yI(P:Program)(t:TypeId):Bool :=
 match und P t with
 |some (.int _)=>false
 |some _=>true
 |none=>false
def lens(n:Nat)(es:List (List Tree)):Bool:=es.all fun e=>Nat.beq e.length n
def append(P:Program)(g:Look)(nid:Nat)(t t':TypeId)(s x:AV):Res :=
 match und P t with
 |some (.slice elem)=>match added g x,sizeOf? P elem,yI P t' with
  |some new,some n,true =>
   match s with
   |.t (.sl _ clip es) =>
    match new with
    |[]=>ret s
    |e::new =>
     if clip=true∧lens n (e::new)=true∧jQ n es=true∧small P elem (es.length+(e::new).length)=true∧0<n then
      some (.val (.hs nid 0),[(nid,.arr n 0 false (es++e::new))])
     else none
   |.hs id ver=>match g id with
    |some (.arr s hA false es) =>
     if ver=hA∧s=n∧lens n new=true∧small P elem (es.length+new.length)=true∧0<n then
      some (.val (.hs id (ver+1)),[(id,.arr s (ver+1) false (es++new))])
     else none
    |_=>none
   |_=>none
  |_,_,_=>none
 |_=>none
def qQ(lt:Bool):AV→List AV→Option AV
 |x,[]=>some x
 |.t (.int k a),.t (.int k' b)::hE =>
  if k=k' then qQ lt (.t (.int k (if (if lt then decide (b<a) else decide (b > a)) then b else a))) hE else none
 |_,_=>none
def convert(P:Program)(g:Look)(nid:Nat)(src dst:TypeId)(x:AV):Res :=
 match und P src,und P dst,x with
 |some _,some (.int k),.t (.int _ n)=>ret (.t (.int k (k.wrap n)))
 |some _,some .string,.t (.str s)=>ret (.t (.str s))
 |some .string,some (.slice e),.t (.str s)=>match und P e with
  |some (.int .u8)=>some (.val (.hs nid 0),[(nid,.arr 1 0 false (byteCells s))])
  |_=>none
 |some (.slice e),some .string,x=>match und P e with
  |some (.int .u8)=>match elems g x with
   |some es=>(match zDG es with
    |some bs=>ret (.t (.str bs))
    |none=>none)
   |none=>none
  |_=>none
 |_,_,_=>none
def storeAt(g:Look)(a:AV)(cs:List AV):Option Patch :=
 match a with
 |.box id off=>match g id with
  |some (.box old)=>if off+cs.length≤old.length then some [(id,.box (splice old off cs))] else none
  |_=>none
 |.el id ver i off=>match g id with
  |some (.arr s hA false es)=>if ver=hA then match nth es i with
    |some e=>if off+cs.length≤e.length then match trees cs with
      |some ts=>some [(id,.arr s hA false (setN es i (splice e off ts)))]
      |none=>none
     else none
    |none=>none
   else none
  |some (.marr s hA es)=>if ver=hA then match nth es i with
    |some e=>if off+cs.length≤e.length then some [(id,.marr s hA (setN es i (splice e off cs)))] else none
    |none=>none
   else none
  |_=>none
 |_=>none
def upd(g:Look):Patch→Look
 |[]=>g
 |(id,o)::ps=>upd (fun i=>match Nat.beq i id with
  |true=>some o
  |false=>g i) ps
def yY(P:Program)(f:FuncId):Bool :=
 match nth P.funcs.toList f with
 | some fn => fn.body.isSome && fn.name != "runtime.NumGoroutine"
 |none=>false
def vN(g:Look):List Nat→List Nat
 |[]=>[]
 |id::ids=>zCq (g id)::vN g ids
def xM(g1:Look)(frz:Patch)(nid:Nat)(ids:List Nat)(v:AV)(h':Heap):AV×Patch :=
 match plain v,ids,h' with
 |true,[],[]=>(v,[])
 |_,_,_=>(back ⟨nth h',ids.length,ids,vN g1 ids,nid⟩ depth v,frz++vE ⟨nth h',ids.length,ids,vN g1 ids,nid⟩ 0 h')
def vY(ρ:Oracle)(g1:Look)(frz:Patch)(nid:Nat)(f:FuncId)(args:List AV):Res :=
 match reach g1 100000 (wT g1 args) [] with
 |none=>none
 |some ids=>match sub g1 ids with
  |none=>none
  |some h=>match ρ f (renL g1 ids args) h with
   |none=>none
   |some (.val v,h')=>some (.val (xM g1 frz nid ids v h').1,(xM g1 frz nid ids v h').2)
   |some (.pan v,h')=>some (.pan (xM g1 frz nid ids v h').1,(xM g1 frz nid ids v h').2)
def jL(C:Cfg)(ρ:Oracle)(g:Look)(nid:Nat)(f:FuncId)(args:List AV):Res :=
 match C.byRef f with
 |true=>match yY C.P f with
  |true=>vY ρ g [] nid f args
  |false=>none
 |false =>
  match C.prim f (args.map (view g)) with
  |some v=>match plain v,yY C.P f with
   |true,true=>ret v
   |_,_=>none
  |none=>match yY C.P f with
   |true=>vY ρ (upd g (xF g (catMap (yO g) args))) (xF g (catMap (yO g) args)) nid f (args.map (view g))
   |false=>none
def uT:AV→Option AV
 |.box id off=>some (.box id off)
 |.el id ver i off=>some (.el id ver i off)
 |.rp cs=>some (.rp cs)
 |.t (.fn f)=>some (.t (.fn f))
 |.fn f a b=>some (.fn f a b)
 |_=>none
def xA(g:Look):List (Nat×AV)→List (Nat×AV)×Patch
 |[]=>([],[])
 |(i,v)::hE =>
  let (l,p):=xA g hE
  ((i,view g v)::l,xF g (yO g v)++p)
def opds(T:Env):List Operand→List AV
 |[]=>[]
 |x::xs=>zN T x::opds T xs
def kI(T:Env):List (Nat×Operand)→List (Nat×AV)
 |[]=>[]
 |(i,x)::xs=>(i,zN T x)::kI T xs
def zBQ(c a b:AV):Res:=match c with
 |.t (.bool true)=>ret a
 |.t (.bool false)=>ret b
 |_=>none
def jB(P:Program)(nid:Nat)(t:TypeId):Res:=match zeroCells P t with
 |some cs=>some (.val (.box nid 0),[(nid,.box cs)])
 |none=>none
def xBox(nid:Nat)(x:AV):Res:=match cellsOf x with
 |some cs=>some (.val (.box nid 0),[(nid,.box cs)])
 |none=>none
def zCC(P:Program)(t:TypeId):Option (List AV) :=
 match zeroCells P t,sizeOf? P t with
 |some z,some n=>if z.length=n∧0<n∧z.all vZ=true then some z else none
 |_,_=>none
def wU(P:Program)(g:Look)(nid:Nat)(t:TypeId)(n:Nat)(parts:List (Nat×AV)):Res :=
 match und P t with
 |some (.slice elem)=>match zCC P elem with
  |some zero =>
   if 16777216<n * zero.length then none else
   match wI n zero (xA g parts).1 with
   |some es=>some (.val (.hs nid 0),(xA g parts).2++[(nid,zAf zero.length es)])
   |none=>none
  |none=>none
 |_=>none
def kD(P:Program)(g:Look)(t:TypeId)(a x:AV):Res :=
 match sizeOf? P t with
 |some n =>
  let x':AV×Patch:=match a with
   |.el _ _ _ _=>uS g x
   |_=>(x,[])
  match cellsOf x'.1 with
  |some cs=>if cs.length=n∧cs.all vZ=true then match storeAt (upd g x'.2) a cs with
    |some p=>some (.val .nov,x'.2++p)
    |none=>none
   else none
  |none=>none
 |none=>none
def jU(P:Program)(nid:Nat)(t:TypeId)(l c:AV):Res :=
 match und P t,l,c with
 |some (.slice elem),.t (.int _ (.ofNat l)),.t (.int _ (.ofNat c))=>match zCC P elem with
  |some zero =>
   if l≤c∧(l=c∨l=0)∧small P elem c=true then some (.val (.hs nid 0),[(nid,zAf zero.length (List.replicate l zero))]) else none
  |none=>none
 |_,_,_=>none
def bound(T:Env):Option Operand→Option (Option Int)
 |none=>some none
 |some x=>match zN T x with
  |.t (.int _ n)=>some (some n)
  |_=>none
def zBE(P:Program)(g:Look)(T:Env)(t:TypeId)(x:AV)(lo hi mx:Option Operand):Res :=
 match bound T lo,bound T hi,bound T mx with
 |some lo,some hi,some mx=>retO (slice P g t x lo hi mx)
 |_,_,_=>none
def zS(P:Program)(s:TypeId)(x:AV)(f:Nat):Res :=
 match und P s with
 |some (.struct fields)=>match nth fields.toList f with
  |some fd=>match sizeOf? P fd.type with
   |some (_+1)=>retO (yC fd.offset x)
   |_=>none
  |none=>none
 |_=>none
def yG(P:Program)(s:TypeId)(x:AV)(f:Nat):Res :=
 match und P s with
 |some (.struct fields)=>match nth fields.toList f with
  |some fd=>match zW x with
   |some cs=>retO (part P fd.type cs fd.offset)
   |none=>none
  |none=>none
 |_=>none
def wG(P:Program)(g:Look)(t:TypeId)(x i:AV):Res :=
 match i with
 |.t (.int _ n)=>retO (indexAddr P g t x n)
 |_=>none
def jH(P:Program)(t:TypeId)(x i:AV):Res :=
 match i with
 |.t (.int _ n)=>retO (index P t x n)
 |_=>none
def zGz(P:Program)(nid:Nat)(t:TypeId)(x:AV):Res :=
 match und P t,x with
 |some .string,.t (.str s)=>some (.val (.box nid 0),[(nid,.siter s 0)])
 |_,_=>none
def zE8(g:Look)(it:AV):Res :=
 match it with
 |.box id 0=>match g id with
  |some (.siter s pos) =>
   if pos<s.length then
    let cw:=Utf8.decode ⟨(s.map UInt8.ofNat).toArray⟩ pos
    some (.val (.tup [.t (.bool true),.t (.int .i64 (.ofNat pos)),.t (.int .i32 (.ofNat cw.1))]),[(id,.siter s (pos+cw.2))])
   else ret (.tup [.t (.bool false)])
  |_=>none
 |_=>none
def uC(t:AV)(i:Nat):Res :=
 match t with
 |.tup vs=>retO (nth vs i)
 |_=>none
def xLen(P:Program)(g:Look)(t:TypeId):List AV→Res
 |[x]=>match und P t,x with
  |some (.array n _),_=>ret (.t (.int .i64 (.ofNat n)))
  |some .string,.t (.str s)=>ret (.t (.int .i64 (.ofNat s.length)))
  |some (.slice _),x=>match lenOf g x with
   |some n=>ret (.t (.int .i64 (.ofNat n)))
   |none=>none
  |_,_=>none
 |_=>none
def vH(P:Program)(g:Look)(nid:Nat)(b:Builtin)(ts:List TypeId)(args:List AV):Res :=
 match b,ts,args with
 |.len,t::_,args=>xLen P g t args
 |.append,[t,t'],[s,x]=>append P g nid t t' s x
 |.max,_,x::hE=>retO (qQ false x hE)
 |.min,_,x::hE=>retO (qQ true x hE)
 |_,_,_=>none
def zBw(P:Program)(t:TypeId)(x:AV):Res :=
 match und P t with
 |some (.interface _)=>none
 |some _=>match x with
  |.t v=>ret (.t (.ifc t v))
  |.box id off=>ret (.ifv t (.box id off))
  |.mp id=>ret (.ifv t (.mp id))
  |_=>none
 |none=>none
def zBI(P:Program)(t:TypeId):Option AV :=
 match info P t with
 |some i=>match i.zero with
  |some z=>some (lit z)
  |none=>none
 |none=>none
def kT(P:Program)(x:AV)(t:TypeId)(ok:Bool):Res :=
 match und P t with
 |some (.interface _)=>none
 |some _=>match x with
  |.t (.ifc u v)=>match Nat.beq u t,ok with
   |true,true=>ret (.tup [.t v,.t (.bool true)])
   |true,false=>ret (.t v)
   |false,true=>(match zBI P t with
    |some z=>ret (.tup [z,.t (.bool false)])
    |none=>none)
   |false,false=>none
  |.t .nilifc=>match ok with
   |true=>(match zBI P t with
    |some z=>ret (.tup [z,.t (.bool false)])
    |none=>none)
   |false=>none
  |.ifv u v=>match Nat.beq u t,ok with
   |true,true=>ret (.tup [v,.t (.bool true)])
   |true,false=>ret v
   |false,true=>(match zBI P t with
    |some z=>ret (.tup [z,.t (.bool false)])
    |none=>none)
   |false,false=>none
  |_=>none
 |none=>none
def zBB(x:AV):Res :=
 match x with
 |.t (.ifc t v)=>some (.pan (.t (.ifc t v)),[])
 |_=>none
def kQ:TypeDesc→Tree→Tree→Option Bool
 |.int _,.int k a,.int k' b=>if k=k' then some (a==b) else none
 |.string,.str a,.str b=>some (beqL a b)
 |.bool,.bool a,.bool b=>some (a==b)
 |_,_,_=>none
def zAP:TypeDesc→Tree→Bool
 |.int _,.int _ _=>true
 |.string,.str _=>true
 |.bool,.bool _=>true
 |_,_=>false
def mfind(kd:TypeDesc)(k:Tree):List (Tree×AV)→Nat→Option (Option (Nat×AV))
 |[],_=>some none
 |e::es,i=>match kQ kd k e.1 with
  |some true=>some (some (i,e.2))
  |some false=>mfind kd k es (i+1)
  |none=>none
def vT(g:Look):AV→Option (List (Tree×AV))
 |.t .nilmap=>some []
 |.mp id=>match g id with
  |some (.map es)=>some es
  |_=>none
 |_=>none
def qV(P:Program)(g:Look)(t:TypeId)(x i:AV)(ok:Bool):Res :=
 match und P t,vT g x,i with
 |some (.map key elem),some es,.t k=>match und P key with
  |some kd=>match zAP kd k,mfind kd k es 0 with
   |true,some (some (_,v))=>ret (match ok with
    |true=>.tup [v,.t (.bool true)]
    |false=>v)
   |true,some none=>match zBI P elem with
    |some z=>ret (match ok with
     |true=>.tup [z,.t (.bool false)]
     |false=>z)
    |none=>none
   |_,_=>none
  |none=>none
 |_,_,_=>none
def qA(P:Program)(g:Look)(t:TypeId)(x i v:AV):Res :=
 match und P t,x,i with
 |some (.map key _),.mp id,.t k=>match g id with
  |some (.map es)=>match und P key with
   |some kd=>match zAP kd k,mfind kd k es 0 with
    |true,some (some (j,_))=>some (.val .nov,[(id,.map (setN es j (k,v)))])
    |true,some none=>some (.val .nov,[(id,.map (es++[(k,v)]))])
    |_,_=>none
   |none=>none
  |_=>none
 |_,_,_=>none
def vL:Nat:=2000000
def xG:Nat:=1000000
def jM(C:Cfg)(ρ:Oracle)(g:Look)(nid:Nat)(T:Env)(c:Call):Res :=
 match c.callee with
 |.value f=>match zN T f with
  |.t (.fn f)=>jL C ρ g nid f (opds T c.args.toList)
  |.fn f first captured=>jL C ρ g nid f (first++(opds T c.args.toList++captured))
  |.yld id=>vY ρ g [] nid vL (.yld id::opds T c.args.toList)
  |_=>none
 |.builtin .panic=>match opds T c.args.toList with
  |[x]=>zBB x
  |_=>none
 |.builtin b=>vH C.P g nid b c.argTypes.toList (opds T c.args.toList)
 |_=>none
def exec1(C:Cfg)(ρ:Oracle)(g:Look)(nid:Nat)(T:Env)(o:Oper):Res :=
 match o.op with
 |.move x|.assign x=>ret (zN T x)
 |.pick c a b=>zBQ (zN T c) (zN T a) (zN T b)
 |.alloc t=>jB C.P nid t
 |.box _ x=>xBox nid (zN T x)
 |.build t parts=>retO (build C.P t (kI T parts.toList))
 |.buildSlice t n parts=>wU C.P g nid t n (kI T parts.toList)
 |.load t a=>retO (load C.P g t (zN T a))
 |.store t a x=>kD C.P g t (zN T a) (zN T x)
 |.nilCheck x=>retO (uT (zN T x))
 |.binOp op t x y _=>retO (zCe C.P op t (uY x||uY y) (zN T x) (zN T y))
 |.unOp op _ x=>retO (unop op (zN T x))
 |.convert s d x=>convert C.P g nid s d (zN T x)
 |.makeFunc (.func f) first captured=>ret (.fn f (opds T first.toList) (opds T captured.toList))
 |.makeSlice t l c=>jU C.P nid t (zN T l) (zN T c)
 |.slice t x lo hi mx=>zBE C.P g T t (zN T x) lo hi mx
 |.fieldAddr s x f=>zS C.P s (zN T x) f
 |.field s x f=>yG C.P s (zN T x) f
 |.indexAddr t x i=>wG C.P g t (zN T x) (zN T i)
 |.index t x i=>jH C.P t (zN T x) (zN T i)
 |.range t x=>zGz C.P nid t (zN T x)
 |.next it true=>zE8 g (zN T it)
 |.extract t i=>uC (zN T t) i
 |.call c=>jM C ρ g nid T c
 |.makeInterface t x=>zBw C.P t (zN T x)
 |.typeAssert x _ t ok=>kT C.P (zN T x) t ok
 |.panic x=>zBB (zN T x)
 |.makeMap _ none=>some (.val (.mp nid),[(nid,.map [])])
 |.lookup t x i ok=>qV C.P g t (zN T x) (zN T i) ok
 |.insert t m k v=>qA C.P g t (zN T m) (zN T k) (zN T v)
 |.mapUpdate t m k v=>qA C.P g t (zN T m) (zN T k) (zN T v)
 |_=>none
def putT(T:Env)(d:Option Tmp)(v:AV):Env :=
 match d with
 |some d=>(d,v)::T
 |none=>T
def put1:Heap→Nat→Obj→Heap
 |[],0,o=>[o]
 |[],n+1,o=>.dead::put1 [] n o
 |_::h,0,o=>o::h
 |a::h,n+1,o=>a::put1 h n o
def patch(h:Heap):Patch→Heap
 |[]=>h
 |(id,o)::ps=>patch (put1 h id o) ps
def wanted(hG:List Oper)(T:Env)(o:Oper):Option Bool :=
 match o.guard with
 |none=>some true
 |some (j,want)=>match nth hG j with
  |some oj=>match oj.dst with
   |some d=>match get T d with
    |.t (.bool b)=>some (b==want)
    |.nov=>some false
    |_=>none
   |none=>none
  |none=>none
structure Rec where
 reads:List Nat
 v:AV
 p:Patch
def Rec.mods(r:Rec):List Nat:=r.p.map (·.1)
def names:Nat→AV→List Nat
 |0,_=>[]
 |d+1,v=>match v with
  |.box id _=>[id]
  |.el id _ _ _=>[id]
  |.hs id _=>[id]
  |.hsub id _ _ _=>[id]
  |.agg cs=>catMap (names d) cs
  |.fn _ a b=>catMap (names d) a++catMap (names d) b
  |.tup vs=>catMap (names d) vs
  |.mp id=>[id]
  |.yld id=>[id]
  |.dfr vs=>catMap (names d) vs
  |.ifv _ v=>names d v
  |_=>[]
def kV(vs:List AV):List Nat:=catMap (names depth) vs
def zIw:Obj→List Nat
 |.box cs=>kV cs
 |.marr _ _ es=>catMap kV es
 |.map es=>catMap (fun e=>names depth e.2) es
 |.loop _ T _ _=>catMap (fun e=>names depth e.2) T
 |_=>[]
def zGQ(g:Look)(id:Nat):List Nat :=
 match g id with
 |some o=>zIw o
 |none=>[]
def zIN(g1:Look)(args:List AV):List Nat :=
 match reach g1 100000 (wT g1 args) [] with
 |none=>[]
 |some ids=>ids++catMap (zGQ g1) ids
def zJz(C:Cfg)(g:Look)(f:FuncId)(args:List AV):List Nat :=
 match C.byRef f with
 |true=>kV args++zIN g args
 |false=>kV args++match C.prim f (args.map (view g)) with
  |some _=>[]
  |none=>zIN (upd g (xF g (catMap (yO g) args))) (args.map (view g))
def foot(C:Cfg)(g:Look)(T:Env)(o:Oper):List Nat :=
 match o.op with
 |.load _ a=>names depth (zN T a)
 |.store _ a x=>names depth (zN T a)++names depth (zN T x)
 |.convert _ _ x=>names depth (zN T x)
 |.slice _ x _ _ _=>names depth (zN T x)
 |.indexAddr _ x _=>names depth (zN T x)
 |.next it _=>names depth (zN T it)
 |.lookup _ x _ _=>names depth (zN T x)
 |.insert _ m _ _=>names depth (zN T m)
 |.mapUpdate _ m _ _=>names depth (zN T m)
 |.buildSlice _ _ parts=>kV ((kI T parts.toList).map (·.2))
 |.call c=>match c.callee with
  |.value f=>match zN T f with
   |.t (.fn f)=>zJz C g f (opds T c.args.toList)
   |.fn f first captured=>zJz C g f (first++(opds T c.args.toList++captured))
   |.yld id=>kV (.yld id::opds T c.args.toList)++zIN g (.yld id::opds T c.args.toList)
   |_=>[]
  |.builtin _=>kV (opds T c.args.toList)
  |_=>[]
 |_=>[]
def yK(k:Nat)(T:Env):Option (List AV) :=
 match get T k with
 |.unk=>some []
 |.dfr ds=>some ds
 |_=>none
def kM(k:Nat)(d:AV)(T:Env):Option Env :=
 match yK k T with
 |some ds=>some ((k,.dfr (d::ds))::T)
 |none=>none
def deferred(T:Env)(c:Call):Option AV :=
 match c.callee with
 |.value f=>match zN T f with
  |.t (.fn f)=>some (.fn f (opds T c.args.toList) [])
  |.fn f first captured=>some (.fn f (first++opds T c.args.toList) captured)
  |_=>none
 |_=>none
def zAO(o:Oper):Option Call :=
 match o.op with
 |.defer c=>some c
 |_=>none
def xR(C:Cfg)(ρ:Oracle)(k:Nat)(hG:List Oper):List Oper→Env→Heap→Option (Option AV×Env×Heap)
 |[],T,h=>some (none,T,h)
 |o::hE,T,h=>match wanted hG T o with
  |none=>none
  |some false=>xR C ρ k hG hE (putT T o.dst .nov) h
  |some true=>match zAO o with
   |some c=>match deferred T c with
    |some d=>match kM k d T with
     |some T'=>xR C ρ k hG hE (putT T' o.dst .nov) h
     |none=>none
    |none=>none
   |none=>match exec1 C ρ (nth h) h.length T o with
    |none=>none
    |some (.pan v,p)=>some (some v,T,patch h p)
    |some (.val v,p)=>xR C ρ k hG hE (putT T o.dst v) (patch h p)
def vU:Nat→Patch→Bool
 |_,[]=>true
 |n,(id,_)::p=>match Nat.blt id n with
  |true=>vU n p
  |false=>match Nat.beq id n with
   |true=>vU (n+1) p
   |false=>false
def xJ(C:Cfg)(ρ:Oracle)(hG:List Oper):List Oper→Env→Heap→Option (List Rec×Env×Heap)
 |[],T,h=>some ([],T,h)
 |o::hE,T,h=>match wanted hG T o with
  |none=>none
  |some false=>match xJ C ρ hG hE (putT T o.dst .nov) h with
   |none=>none
   |some (l,T',h')=>some (⟨[],.nov,[]⟩::l,T',h')
  |some true=>match exec1 C ρ (nth h) h.length T o with
   |none=>none
   |some (.pan _,_)=>none
   |some (.val v,p)=>match vU h.length p with
    |false=>none
    |true=>match xJ C ρ hG hE (putT T o.dst v) (patch h p) with
     |none=>none
     |some (l,T',h')=>some (⟨foot C (nth h) T o,v,p⟩::l,T',h')
def zKV(a b:List Nat):Bool:=a.all fun x=>!mem x b
def clash(a b:Rec):Bool:=!(zKV a.mods b.reads&&zKV a.reads b.mods&&zKV a.mods b.mods)
def busy(a:Rec):Bool:=!(a.reads.isEmpty&&a.p.isEmpty)
def zA8:List (Rec×Nat)→List (Rec×Nat)
 |[]=>[]
 |(a,i)::hE=>match busy a with
  |true=>(a,i)::zA8 hE
  |false=>zA8 hE
def uN:Nat→List Rec→List (Rec×Nat)
 |_,[]=>[]
 |i,a::hE=>(a,i)::uN (i+1) hE
def calm(before:List Nat):List (Rec×Nat)→Bool
 |[]=>true
 |(a,i)::hE=>(hE.all fun(b,j)=>(getN before j).testBit i||!clash a b)&&calm before hE
def zCb(masks:List Nat):List Edge→Nat
 |[]=>0
 |e::es=>match Region.binds .any e with
  |true=>Nat.lor (Nat.lor (Nat.shiftLeft 1 e.on) (getN masks e.on)) (zCb masks es)
  |false=>zCb masks es
def zBJ:List Nat→List Oper→List Nat
 |acc,[]=>acc
 |acc,o::os=>match zCb acc o.after.toList with
  |n=>zBJ (acc++[n]) os
def masks(hG:List Oper):List Nat:=zBJ [] hG
def zJe:Nat→List Oper→Bool
 |_,[]=>true
 |i,o::os=>(o.after.toList.all fun e=>!Region.binds .any e||Nat.blt e.on i)&&zJe (i+1) os
def zLW:List Operand→List Nat
 |[]=>[]
 |.tmp t::xs=>t::zLW xs
 |_::xs=>zLW xs
def zPH(hG:List Oper)(o:Oper):List Nat :=
 match o.guard with
 |none=>[]
 |some (j,_)=>match nth hG j with
  |some oj=>match oj.dst with
   |some d=>[d]
   |none=>[]
  |none=>[]
def looks(hG:List Oper)(o:Oper):List Nat:=zLW o.op.operands.toList++zPH hG o
def zB9(hG:List Oper)(x y:Oper):Bool :=
 match x.dst with
 |some d=>!mem d (looks hG y)&&(match y.dst with
  |some e=>!Nat.beq d e
  |none=>true)
 |none=>true
def zBP(hG:List Oper)(ms:List Nat):Nat→List Oper→Bool
 |_,[]=>true
 |i,a::hE=>go i a (i+1) hE&&zBP hG ms (i+1) hE
 where
 go (i:Nat) (a:Oper):Nat→List Oper→Bool
  |_,[]=>true
  |j,b::hE=>((getN ms j).testBit i||(zB9 hG a b&&zB9 hG b a))&&go i a (j+1) hE
def zCl(hG:List Oper):Bool:=zJe 0 hG&&zBP hG (masks hG) 0 hG
def uQ(k:Nat):List Oper→Bool
 |[]=>true
 |o::os=>match o.dst with
  |some d=>match Nat.blt d k with
   |true=>uQ k os
   |false=>false
  |none=>uQ k os
inductive Ex where
 |normal
 |exit (id:Nat)
 |ret
 |pan (v:AV)
 deriving Inhabited
structure St where
 T:Env
 h:Heap
 deriving Inhabited
def region(C:Cfg)(ρ:Oracle)(k:Nat)(hG:List Oper)(draw:Bool)(st:St):Option (Ex×St) :=
 match uQ k hG with
 |false=>none
 |true=>match draw with
  |true=>match zCl hG,xJ C ρ hG hG st.T st.h with
   |true,some (l,T,h)=>match calm (masks hG) (zA8 (uN 0 l)) with
    |true=>some (.normal,⟨T,h⟩)
    |false=>none
   |_,_=>none
  |false=>match xR C ρ k hG hG st.T st.h with
   |none=>none
   |some (none,T,h)=>some (.normal,⟨T,h⟩)
   |some (some v,T,h)=>some (.pan v,⟨T,h⟩)
def wK:Code→Option Nat
 |.region id _ _=>some id
 |.seq a b=>match wK a with
  |some id=>some id
  |none=>wK b
 |.cond _ a b=>match wK a with
  |some id=>some id
  |none=>wK b
 |.block _ b=>wK b
 |.loop b=>wK b
 |.scope b=>wK b
 |_=>none
def zBY(k:Nat)(T:Env)(ks:List Nat):List Nat :=
 match get T k with
 |.unk=>ks
 |_=>match mem k ks with
  |true=>ks
  |false=>k::ks
def tidy(m k:Nat)(keep:Option (List Nat))(st:St):Option St :=
 match keep with
 |none=>some st
 |some ks =>
  match canon st.h m ((zBY k st.T ks).map (get st.T)) with
  |some (vs,h)=>some ⟨(zBY k st.T ks).zip vs,h⟩
  |none=>none
def zFI(C:Cfg)(ρ:Oracle)(g:Look)(nid:Nat)(f:AV)(args:List AV):Res :=
 match f with
 |.t (.fn f)=>jL C ρ g nid f args
 |.fn f first captured=>jL C ρ g nid f (first++(args++captured))
 |_=>none
def xP(keep:Nat→Option (List Nat))(b:Code):Option (List Nat) :=
 match wK b with
 |some r=>keep r
 |none=>none
def zDT(k:Nat)(keep:Option (List Nat))(T:Env):Option Env :=
 match keep with
 |none=>match get T k with
  |.unk=>some T
  |_=>none
 |some ks=>match mem k ks with
  |true=>none
  |false=>some (ks.zip (ks.map (get T)))
def kfOf(keep:Nat→Option (List Nat)):Nat :=
 match keep 999999999 with
 |some (f::_)=>f
 |_=>0
def zEC(jump:Option Code)(st:St):Option (Ex×St) :=
 match jump with
 |none=>some (.normal,st)
 |some (.exit id)=>some (.exit id,st)
 |some .ret=>some (.ret,st)
 |_=>none
def zED(C:Cfg)(ρ:Oracle)(k:Nat)(keep:Nat→Option (List Nat))(f:Operand)(ps:List Nat)(asg body:Code)(st:St):Option (Ex×St) :=
 match zDT k (xP keep body) st.T,kM k .nov st.T with
 |some T',some T1 =>
  match zFI C ρ (upd (nth st.h) [(st.h.length,.loop ⟨k,kfOf keep,ps,asg,body⟩ T' 0 none)]) (st.h.length+1) (zN st.T f) [.yld st.h.length] with
  |none=>none
  |some (.pan _,_)=>none
  |some (.val _,p)=>match nth (patch (patch st.h [(st.h.length,.loop ⟨k,kfOf keep,ps,asg,body⟩ T' 0 none)]) p) st.h.length with
   |some (.loop c T2 b jump)=>match Nat.beq b 1 with
    |true=>none
    |false=>zEC jump ⟨T1,patch (patch (patch st.h [(st.h.length,.loop ⟨k,kfOf keep,ps,asg,body⟩ T' 0 none)]) p) [(st.h.length,.loop c T2 3 jump)]⟩
   |_=>none
 |_,_=>none
def iter(gc:St→Option St)(body:St→Option (Ex×St)):Nat→St→Option (Ex×St)
 |0,_=>none
 |n+1,st=>match gc st with
  |none=>none
  |some st=>match body st with
   |some (.normal,st)=>iter gc body n st
   |r=>r
def exec(C:Cfg)(ρ:Oracle)(n m k:Nat)(keep:Nat→Option (List Nat)):Code→St→Option (Ex×St)
 |.skip,st=>some (.normal,st)
 |.region _ hG draw,st=>region C ρ k hG.toList draw st
 |.seq a b,st=>match exec C ρ n m k keep a st with
  |some (.normal,st)=>exec C ρ n m k keep b st
  |r=>r
 |.cond c a b,st=>match zN st.T c with
  |.t (.bool true)=>exec C ρ n m k keep a st
  |.t (.bool false)=>exec C ρ n m k keep b st
  |_=>none
 |.block id b,st=>match exec C ρ n m k keep b st with
  |some (.exit id',st)=>if id'=id then some (.normal,st) else some (.exit id',st)
  |r=>r
 |.loop b,st=>iter (tidy m k (xP keep b)) (exec C ρ n m k keep b) n st
 |.rangeFunc f ps asg body,st=>zED C ρ k keep f ps.toList asg body st
 |.exit id,st=>some (.exit id,st)
 |.scope b,st=>exec C ρ n m k keep b st
 |.label _,st=>some (.normal,st)
 |.ret,st=>some (.ret,st)
 |_,_=>none
def zAZ(P:Program)(st:St):ResultVar→Option AV
 |.tmp t=>some (get st.T t)
 |.cell a t=>load P (nth st.h) t (get st.T a)
def qC(P:Program)(st:St):List ResultVar→Option (List AV)
 |[]=>some []
 |r::rs=>match zAZ P st r with
  |none=>none
  |some v=>match qC P st rs with
   |none=>none
   |some vs=>some (v::vs)
def results(P:Program)(fn:Func)(st:St):Option AV :=
 match qC P st fn.results.toList with
 |some [v]=>some v
 |some vs=>some (.tup vs)
 |none=>none
def uX(g:Look):AV→List Nat
 |.tup vs=>catMap (yO g) vs
 |v=>yO g v
def yW(C:Cfg)(f:FuncId)(m:Nat)(v:AV)(h:Heap):Option (AV×Heap) :=
 match C.thaw f with
 |true=>match canon h m [v] with
  |some ([v],h)=>some (v,h)
  |_=>none
 |false=>match canon (patch h (xF (nth h) (uX (nth h) v))) m [kR (nth h) v] with
  |some ([v],h)=>some (v,h)
  |_=>none
def zT:Nat→List AV→Env
 |_,[]=>[]
 |i,v::vs=>(i,v)::zT (i+1) vs
abbrev Pn:=Option (Tree×Bool)
def pnAV:Pn→AV
 |none=>.t .nilptr
 |some (x,b)=>.agg [.t x,.t (.bool b)]
def avPn:AV→Option Pn
 |.t .nilptr=>some none
 |.agg [.t x,.t (.bool b)]=>some (some (x,b))
 |_=>none
def zAS(o:Oper):Bool :=
 match o.op with
 |.call c=>match c.callee with
  |.builtin .recover=>c.args.toList.isEmpty
  |_=>false
 |_=>false
def zJc:Op→Bool
 |.move _|.assign _|.load _ _|.binOp _ _ _ _ _|.unOp _ _ _|.typeAssert _ _ _ _|.extract _ _|.field _ _ _|.fieldAddr _ _ _|.makeInterface _ _|.convert _ _ _=>true
 |_=>false
def recovered:Pn→Tree×Pn
 |some (x,false)=>(x,some (x,true))
 |u=>(.nilifc,u)
def qB(C:Cfg)(ρ:Oracle)(hG:List Oper):List Oper→Env→Heap→Pn→Option (Env×Heap×Pn)
 |[],T,h,u=>some (T,h,u)
 |o::hE,T,h,u=>match wanted hG T o with
  |none=>none
  |some false=>qB C ρ hG hE (putT T o.dst .nov) h u
  |some true=>match zAS o with
   |true=>qB C ρ hG hE (putT T o.dst (.t (recovered u).1)) h (recovered u).2
   |false=>match zJc o.op with
    |true=>match exec1 C ρ (nth h) h.length T o with
     |some (.val v,p)=>qB C ρ hG hE (putT T o.dst v) (patch h p) u
     |_=>none
    |false=>none
def zAU(c:Code):Bool :=
 match c with
 |.region _ hG false=>hG.toList.any zAS
 |.seq a b=>zAU a||zAU b
 |.scope a=>zAU a
 |.block _ a=>zAU a
 |_=>false
def zE4(r:Option (Ex×St))(u:Pn):Option (Ex×St×Pn) :=
 match r with
 |some (e,st)=>some (e,st,u)
 |none=>none
def uB(C:Cfg)(ρ:Oracle)(n m k:Nat)(keep:Nat→Option (List Nat)):Code→St→Pn→Option (Ex×St×Pn)
 |.region id hG false,st,u=>match hG.toList.any zAS with
  |true=>match uQ k hG.toList with
   |true=>match qB C ρ hG.toList hG.toList st.T st.h u with
    |some (T,h,u)=>some (.normal,⟨T,h⟩,u)
    |none=>none
   |false=>none
  |false=>zE4 (exec C ρ n m k keep (.region id hG false) st) u
 |.seq a b,st,u=>match zAU a with
  |true=>match uB C ρ n m k keep a st u with
   |some (.normal,st,u)=>zE4 (exec C ρ n m k keep b st) u
   |r=>r
  |false=>match exec C ρ n m k keep a st with
   |some (.normal,st)=>uB C ρ n m k keep b st u
   |some (e,st)=>some (e,st,u)
   |none=>none
 |c,st,u=>zE4 (exec C ρ n m k keep c st) u
def zCY:Pn→Pn
 |some (_,true)=>none
 |u=>u
def zJb(C:Cfg)(ρ:Oracle)(n:Nat)(f:FuncId)(args:List AV)(h:Heap):Option (Out×Heap) :=
 match args with
 |[]=>none
 |a::args=>match avPn a,nth C.P.funcs.toList f with
  |some u,some fn=>match fn.body with
   |none=>none
   |some c =>
    match Nat.ble args.length fn.ntmps with
    |true=>match uB C ρ n h.length fn.ntmps (C.keep f) c ⟨zT 0 args,h⟩ u with
     |some (.normal,st,u)|some (.ret,st,u)=>match yK fn.ntmps st.T,results C.P fn st with
      |some [],some _=>match canon st.h h.length [] with
       |some (_,h)=>some (.val (pnAV (zCY u)),h)
       |none=>none
      |_,_=>none
     |_=>none
    |false=>none
  |_,_=>none
def zGZ:List Nat→List AV→Env→Option Env
 |[],[],T=>some T
 |p::ps,a::as,T=>zGZ ps as ((p,a)::T)
 |_,_,_=>none
def zCv(C:Cfg)(ρ:Oracle)(n:Nat)(args:List AV)(h:Heap):Option (Out×Heap) :=
 match args with
 |.yld id::as=>match nth h id with
  |some (.loop c T 0 none)=>match zGZ c.ps as ((c.k,.rnd)::T),(Nat.blt id h.length&&dstOKL c.k c.ps) with
   |some T1,true=>match exec C ρ n h.length c.k (C.keep c.kf) c.asg ⟨T1,h⟩ with
    |some (.normal,st)=>match nth st.h id with
     |some (.loop c' T' 0 none)=>match exec C ρ n h.length c.k (C.keep c.kf) c.body ⟨st.T,patch st.h [(id,.loop c' T' 1 none)]⟩ with
      |some (e,st2)=>match endOf e,nth st2.h id with
       |some jump,some (.loop c2 T2 _ _)=>match canon (patch st2.h [(id,.loop c2 T2 (if jump.isNone then 0 else 2) jump)]) h.length [] with
        |some (_,h')=>some (.val (.t (.bool jump.isNone)),h')
        |none=>none
       |_,_=>none
      |none=>none
     |_=>none
    |_=>none
   |_,_=>none
  |_=>none
 |_=>none
 where
 dstOKL (k:Nat):List Nat→Bool
  |[]=>true
  |p::ps=>Nat.blt p k&&dstOKL k ps
 endOf:Ex→Option (Option Code)
  |.normal=>some none
  |.ret=>some (some .ret)
  |.exit id=>some (some (.exit id))
  |.pan _=>none
def leave(C:Cfg)(ρ:Oracle)(f:FuncId)(fn:Func)(m:Nat):List AV→Pn→Env→Heap→Option (Out×Heap)
 |[],none,T,h=>match results C.P fn ⟨T,h⟩ with
  |none=>none
  |some v=>match yW C f m v h with
   |some (v,h)=>some (.val v,h)
   |none=>none
 |[],some (x,false),_,h=>match yW C f m (.t x) h with
  |some (v,h)=>some (.pan v,h)
  |none=>none
 |.nov::ds,u,T,h=>leave C ρ f fn m ds u T h
 |.fn g first captured::ds,u,T,h=>match yY C.P g with
  |true=>match vY ρ (nth h) [] h.length (xG+g) (pnAV u::(first++captured)) with
   |some (.val v,p)=>match avPn v with
    |some u=>leave C ρ f fn m ds u T (patch h p)
    |none=>none
   |_=>none
  |false=>none
 |_,_,_,_=>none
def zCs(C:Cfg)(ρ:Oracle)(n:Nat)(f:FuncId)(fn:Func)(c:Code)(args:List AV)(h:Heap):Option (Out×Heap) :=
 match exec C ρ n h.length fn.ntmps (C.keep f) c ⟨zT 0 args,h⟩ with
 |some (.normal,st)|some (.ret,st)=>match yK fn.ntmps st.T with
  |some []=>match results C.P fn st with
   |none=>none
   |some v=>match yW C f h.length v st.h with
    |some (v,h)=>some (.val v,h)
    |none=>none
  |some ds=>leave C ρ f fn h.length ds none st.T st.h
  |none=>none
 |some (.pan v,st)=>match yK fn.ntmps st.T with
  |some []=>match yW C f h.length v st.h with
   |some (v,h)=>some (.pan v,h)
   |none=>none
  |some ds=>match v with
   |.t x=>leave C ρ f fn h.length ds (some (x,false)) st.T st.h
   |_=>none
  |none=>none
 |_=>none
def zDl(C:Cfg)(ρ:Oracle)(n:Nat)(f:FuncId)(args:List AV)(h:Heap):Option (Out×Heap) :=
 match nth C.P.funcs.toList f with
 |none=>match Nat.beq f vL with
  |true=>zCv C ρ n args h
  |false=>match Nat.ble xG f with
   |true=>zJb C ρ n (f - xG) args h
   |false=>none
 |some fn=>match fn.body with
  |none=>none
  |some c=>match Nat.ble args.length fn.ntmps with
   |true=>zCs C ρ n f fn c args h
   |false=>none
def zBg(C:Cfg):Nat→Oracle
 |0,_,_,_=>none
 |n+1,f,args,h=>zDl C (zBg C n) n f args h
def zJg(C:Cfg)(tbl:Oracle):Nat→Oracle
 |0,_,_,_=>none
 |n+1,f,args,h=>match tbl f args h with
  |some r=>some r
  |none=>zDl C (zJg C tbl n) n f args h
def yP{α:Type}:∀(l:List α) (n:Nat),nth l n=l[n]?
 |[],n=>by simp [nth]
 |a::l,0=>by simp [nth]
 |a::l,n+1=>by simp [nth,yP l n]
def uZ{α:Type}:∀(l:List α) (n:Nat) (x:α),setN l n x=l.set n x
 |[],n,x=>by simp [setN]
 |a::l,0,x=>by simp [setN]
 |a::l,n+1,x=>by simp [setN,uZ l n]
def zAc {α:Type} {l:List α} {lo n:Nat} {r:List α} (h:cut l lo n=some r) :
  lo+n≤l.length∧r=(l.drop lo).take n:=by
 unfold cut at h;split at h
 ·exact⟨by assumption,by simpa using h.symm⟩
 cases h
def vM{α:Type}{l:List α}{lo n:Nat}{r:List α}(h:cut l lo n=some r):r.length=n:=by
 obtain⟨h1,rfl⟩:=zAc h;simp;omega
def zDD{α:Type}{l:List α}{lo n:Nat}{r:List α}(h:cut l lo n=some r){i:Nat}(hi:i<n):r[i]?=l[lo+i]?:=by
 obtain⟨h1,rfl⟩:=zAc h;rw[List.getElem?_take_of_lt hi,List.getElem?_drop]
def wV:∀(x y:List Nat),beqL x y=decide (x=y)
 |[],[]=>by simp [beqL]
 |[],_::_=>by simp [beqL]
 |_::_,[]=>by simp [beqL]
 |a::x,b::y=>by
  have ih:=wV x y;unfold beqL;cases h:Nat.beq a b with
  |true=>have:a=b:=Nat.eq_of_beq_eq_true h;simp [ih,this]
  |false=>have:a≠b:=Nat.ne_of_beq_eq_false h;simp [this]
abbrev Imm:=Nat→Nat→Option Value
inductive TR (I:Imm):Tree→Value→Prop
 |bool (b:Bool):TR I (.bool b) (.bool b)
 |int (k:IntKind) (n:Int):TR I (.int k n) (.int k n)
 |str (s:List Nat) (h:∀b ∈ s,b<256):TR I (.str s) (.string ⟨(s.map UInt8.ofNat).toArray⟩)
 |sl (nl clip:Bool) (es:List (List Tree)) (a:Option Addr) (cap s:Nat) (val:Nat→Nat→Value)
   (h0:nl=true→a=none∧es=[]∧cap=0)
   (h1:nl=false→a≠none∧∃b o,(es≠[]→a=some ⟨b,o,none⟩)∧∀(i j:Nat) e c,es[i]?=some e→e[j]?=some c→I b (o+i * s+j)=some (val i j))
   (h2:∀e ∈ es,e.length=s)
   (h3:∀(i j:Nat) e c,es[i]?=some e→e[j]?=some c→TR I c (val i j))
   (h4:es.length≤cap) (h5:clip=true→cap=es.length)
   (h6:∀(i j:Nat) e c,es[i]?=some e→e[j]?=some c→(val i j).oneCell'=true):TR I (.sl nl clip es) (.slice a es.length cap)
 |agg (cs:List Tree) (vs:List Value) (hl:cs.length=vs.length)
   (h:∀(i:Nat) c v,cs[i]?=some c→vs[i]?=some v→TR I c v):TR I (.agg cs) (.agg vs.toArray)
 |ifc (t:TypeId) (x:Tree) (v:Value) (h:TR I x v):TR I (.ifc t x) (.iface t v)
 |nilifc:TR I .nilifc .nilIface
 |fn (f:FuncId):TR I (.fn f) (.func (.func f) #[] #[])
 |nilfn:TR I .nilfn .nilFunc
 |nilptr:TR I .nilptr (.pointer none)
 |nilmap:TR I .nilmap (.map none)
def uU(I J:Imm):Prop:=∀b o v,I b o=some v→J b o=some v
theorem uU.refl(I:Imm):uU I I:=fun _ _ _ h=>h
theorem uU.trans{I J K:Imm}(h:uU I J)(h':uU J K):uU I K:=fun b o v x=>h' b o v (h b o v x)
theorem TR.mono{I J:Imm}(mG:uU I J){x:Tree}{v:Value}(h:TR I x v):TR J x v:=by
 induction h with
 |bool b=>exact .bool b
 |int k n=>exact .int k n
 |str s hs=>exact .str s hs
 |sl nl clip es a cap s val h0 h1 h2 h3 h4 h5 h6 ih =>
  exact .sl nl clip es a cap s val h0 (fun hn=>let ⟨hI,b,o,ha,hc⟩:=h1 hn;⟨hI,b,o,ha,fun i j e c he hV=>mG _ _ _ (hc i j e c he hV)⟩) h2 ih h4 h5 h6
 |agg cs vs hl h ih=>exact .agg cs vs hl ih
 |ifc t x v h ih=>exact .ifc t x v ih
 |nilifc=>exact .nilifc
 |fn f=>exact .fn f
 |nilfn=>exact .nilfn
 |nilptr=>exact .nilptr
 |nilmap=>exact .nilmap
structure G where
 β:Nat→Option Nat
 sz:Nat→Nat
 imm:Imm
def cur(g:Look)(id:Nat):Option Nat :=
 match g id with
 |some (.arr _ ver _ _)=>some ver
 |some (.marr _ ver _)=>some ver
 |_=>none
def dims(g:Look)(id:Nat):Option (Nat×Nat) :=
 match g id with
 |some (.arr s _ _ es)=>some (s,es.length)
 |some (.marr s _ es)=>some (s,es.length)
 |_=>none
def zCG{g:Look}{id ver:Nat}:fresh g id ver=true↔cur g id=some ver:=by
 unfold fresh cur;split<;>simp_all
 ·exact eq_comm
 exact eq_comm
def Old(g:Look)(id ver:Nat):Prop:=∃c,cur g id=some c∧ver≤c
inductive VR (γ:G) (g:Look):AV→Value→Prop
 |t (x:Tree) (v:Value) (h:TR γ.imm x v):VR γ g (.t x) v
 |nov:VR γ g .nov undef
 |unk (v:Value):VR γ g .unk v
 |box (id off b:Nat) (h:γ.β id=some b) (hc:cur g id=none):VR γ g (.box id off) (.pointer (some ⟨b,off,none⟩))
 |el (id ver i off:Nat) (a:Addr) (ho:Old g id ver)
   (h:cur g id=some ver→∃b s n,γ.β id=some b∧dims g id=some (s,n)∧a=⟨b,i * s+off,none⟩):VR γ g (.el id ver i off) (.pointer (some a))
 |rp (cs:List Tree) (b o:Nat) (val:Nat→Value) (h:∀(j:Nat) c,cs[j]?=some c→γ.imm b (o+j)=some (val j))
   (h':∀(j:Nat) c,cs[j]?=some c→TR γ.imm c (val j)):VR γ g (.rp cs) (.pointer (some ⟨b,o,none⟩))
 |hs (id ver:Nat) (a:Addr) (n cap:Nat) (ho:Old g id ver)
   (h:cur g id=some ver→∃b s,γ.β id=some b∧dims g id=some (s,n)∧a=⟨b,0,none⟩∧n≤cap∧cap * s≤γ.sz id):VR γ g (.hs id ver) (.slice (some a) n cap)
 |hsub (id ver lo len:Nat) (a:Addr) (cap:Nat) (ho:Old g id ver)
   (h:cur g id=some ver→∃b s n,γ.β id=some b∧dims g id=some (s,n)∧len≤cap∧lo+len≤n∧(len≠0→a=⟨b,lo * s,none⟩)):VR γ g (.hsub id ver lo len) (.slice (some a) len cap)
 |agg (cs:List AV) (vs:List Value) (hl:cs.length=vs.length)
   (h:∀(i:Nat) c v,cs[i]?=some c→vs[i]?=some v→VR γ g c v):VR γ g (.agg cs) (.agg vs.toArray)
 |fn (f:FuncId) (as bs:List AV) (us vs:List Value) (hl:as.length=us.length) (mw:bs.length=vs.length)
   (h:∀(i:Nat) c v,as[i]?=some c→us[i]?=some v→VR γ g c v)
   (h':∀(i:Nat) c v,bs[i]?=some c→vs[i]?=some v→VR γ g c v):VR γ g (.fn f as bs) (.func (.func f) us.toArray vs.toArray)
 |tup (cs:List AV) (vs:List Value) (hl:cs.length=vs.length)
   (h:∀(i:Nat) c v,cs[i]?=some c→vs[i]?=some v→VR γ g c v):VR γ g (.tup cs) (.tuple vs.toArray)
 |mp (id b:Nat) (h:γ.β id=some b) (hc:cur g id=none):VR γ g (.mp id) (.map (some b))
 |yld (id b:Nat) (h:γ.β id=some b) (hc:cur g id=none):VR γ g (.yld id) (.func (.yield b) #[] #[])
 |dfr (ds:List AV) (v:Value):VR γ g (.dfr ds) v
 |rnd (v:Value):VR γ g .rnd v
 |ifv (t:TypeId) (x:AV) (v:Value) (h:VR γ g x v):VR γ g (.ifv t x) (.iface t v)
 |ifx (t:TypeId) (v:Value):VR γ g .ifx (.iface t v)
def VRs(γ:G)(g:Look)(xs:List AV)(vs:List Value):Prop :=
 xs.length=vs.length∧∀(i:Nat) x v,xs[i]?=some x→vs[i]?=some v→VR γ g x v
theorem VRs.nil{γ:G}{g:Look}:VRs γ g [] []:=⟨rfl,fun _ _ _ h=>by simp at h⟩
theorem VRs.cons{γ:G}{g:Look}{x:AV}{v:Value}{xs:List AV}{vs:List Value}(h:VR γ g x v)(hs:VRs γ g xs vs):VRs γ g (x::xs) (v::vs):=by
 refine⟨by simp [hs.1],fun i y u hy hu=>?_⟩;cases i with
 |zero=>simp at hy hu;subst hy;subst hu;exact h
 |succ i=>exact hs.2 i y u (by simpa using hy) (by simpa using hu)
theorem VRs.head{γ:G}{g:Look}{x:AV}{v:Value}{xs:List AV}{vs:List Value}(h:VRs γ g (x::xs) (v::vs)):VR γ g x v:=h.2 0 x v rfl rfl
theorem VRs.tail{γ:G}{g:Look}{x:AV}{v:Value}{xs:List AV}{vs:List Value}(h:VRs γ g (x::xs) (v::vs)):VRs γ g xs vs :=
 ⟨by simpa using h.1,fun i y u hy hu=>h.2 (i+1) y u (by simpa using hy) (by simpa using hu)⟩
theorem VRs.cases_cons{γ:G}{g:Look}{x:AV}{xs:List AV}{vs:List Value}(h:VRs γ g (x::xs) vs):∃v vs',vs=v::vs'∧VR γ g x v∧VRs γ g xs vs':=by
 cases vs with
 |nil=>simp [VRs] at h
 |cons v vs'=>exact⟨v,vs',rfl,h.head,h.tail⟩
theorem VRs.nil_inv{γ:G}{g:Look}{vs:List Value}(h:VRs γ g [] vs):vs=[]:=by
 exact List.eq_nil_of_length_eq_zero h.1.symm
theorem VRs.append{γ:G}{g:Look}{xs ys:List AV}{vs us:List Value}(h:VRs γ g xs vs)(h':VRs γ g ys us):VRs γ g (xs++ys) (vs++us):=by
 induction xs generalizing vs with
 |nil=>rw[h.nil_inv];exact h'
 |cons x xs ih=>obtain⟨v,vs',rfl,hx,ky⟩:=h.cases_cons;exact .cons hx (ih ky)
structure Ext (γ:G) (g:Look) (γ':G) (g':Look):Prop where
 imm:uU γ.imm γ'.imm
 box:∀id b,γ.β id=some b→cur g id=none→γ'.β id=some b∧cur g' id=none
 arr:∀id c,cur g id=some c→∃c',cur g' id=some c'∧c≤c'∧(c'=c→γ'.β id=γ.β id∧γ'.sz id=γ.sz id∧dims g' id=dims g id)
theorem Ext.refl(γ:G)(g:Look):Ext γ g γ g:=⟨.refl _,fun _ _ h h'=>⟨h,h'⟩,fun _ c h=>⟨c,h,Nat.le_refl _,fun _=>⟨rfl,rfl,rfl⟩⟩⟩
theorem Ext.trans{γ₁ γ₂ γ₃:G}{g₁ g₂ g₃:Look}(h:Ext γ₁ g₁ γ₂ g₂)(h':Ext γ₂ g₂ γ₃ g₃):Ext γ₁ g₁ γ₃ g₃:=by
 refine⟨h.imm.trans h'.imm,fun id b hb hc=>?_,fun id c hc=>?_⟩
 ·obtain⟨h1,h2⟩:=h.box id b hb hc;exact h'.box id b h1 h2
 obtain⟨c₂,h1,h2,h3⟩:=h.arr id c hc;obtain⟨c₃,h4,h5,h6⟩:=h'.arr id c₂ h1;refine⟨c₃,h4,by omega,fun he=>?_⟩;obtain⟨a1,a2,a3⟩:=h6 (by omega);obtain⟨b1,b2,b3⟩:=h3 (by omega);exact⟨a1.trans b1,a2.trans b2,a3.trans b3⟩
theorem Old.mono{γ γ':G}{g g':Look}(e:Ext γ g γ' g'){id ver:Nat}(h:Old g id ver):Old g' id ver:=by
 obtain⟨c,hc,hv⟩:=h;obtain⟨c',h1,h2,_⟩:=e.arr id c hc;exact⟨c',h1,by omega⟩
theorem Ext.back {γ γ':G} {g g':Look} (e:Ext γ g γ' g') {id ver:Nat} (ho:Old g id ver) (h:cur g' id=some ver) :
  cur g id=some ver∧γ'.β id=γ.β id∧γ'.sz id=γ.sz id∧dims g' id=dims g id:=by
 obtain⟨c,hc,hv⟩:=ho;obtain⟨c',h1,h2,h3⟩:=e.arr id c hc;rw[h1] at h;cases h;have:c=ver:=by omega
 subst this;exact⟨hc,h3 rfl⟩
theorem VR.mono{γ γ':G}{g g':Look}(e:Ext γ g γ' g'){x:AV}{v:Value}(h:VR γ g x v):VR γ' g' x v:=by
 induction h with
 |t x v h=>exact .t x v (h.mono e.imm)
 |nov=>exact .nov
 |unk v=>exact .unk v
 |box id off b h hc=>obtain⟨h1,h2⟩:=e.box id b h hc;exact .box id off b h1 h2
 |el id ver i off a ho h =>
  refine .el id ver i off a (ho.mono e) fun hc=>?_
  obtain⟨h1,h2,h3,h4⟩:=e.back ho hc;obtain⟨b,s,n,a1,a2,a3⟩:=h h1;exact⟨b,s,n,h2.trans a1,h4.trans a2,a3⟩
 |rp cs b o val h h'=>exact .rp cs b o val (fun j c hc=>e.imm _ _ _ (h j c hc)) (fun j c hc=>(h' j c hc).mono e.imm)
 |hs id ver a n cap ho h =>
  refine .hs id ver a n cap (ho.mono e) fun hc=>?_
  obtain⟨h1,h2,h3,h4⟩:=e.back ho hc;obtain⟨b,s,a1,a2,a3,a4,a5⟩:=h h1;exact⟨b,s,h2.trans a1,h4.trans a2,a3,a4,by rw[h3];exact a5⟩
 |hsub id ver lo len a cap ho h =>
  refine .hsub id ver lo len a cap (ho.mono e) fun hc=>?_
  obtain⟨h1,h2,h3,h4⟩:=e.back ho hc;obtain⟨b,s,n,a1,a2,a3,a4,a5⟩:=h h1;exact⟨b,s,n,h2.trans a1,h4.trans a2,a3,a4,a5⟩
 |agg cs vs hl h ih=>exact .agg cs vs hl ih
 |fn f as bs us vs hl mw h h' ih ih'=>exact .fn f as bs us vs hl mw ih ih'
 |tup cs vs hl h ih=>exact .tup cs vs hl ih
 |mp id b h hc=>obtain⟨h1,h2⟩:=e.box id b h hc;exact .mp id b h1 h2
 |yld id b h hc=>obtain⟨h1,h2⟩:=e.box id b h hc;exact .yld id b h1 h2
 |dfr ds v=>exact .dfr ds v
 |rnd v=>exact .rnd v
 |ifv t x v h ih=>exact .ifv t x v ih
 |ifx t v=>exact .ifx t v
theorem VRs.mono{γ γ':G}{g g':Look}(e:Ext γ g γ' g'){xs:List AV}{vs:List Value}(h:VRs γ g xs vs):VRs γ' g' xs vs :=
 ⟨h.1,fun i x v hx hv=>(h.2 i x v hx hv).mono e⟩
def ERel(γ:G)(g:Look)(e:Tree×AV)(x:MapEntry):Prop:=TR γ.imm e.1 x.key∧VR γ g e.2 x.val
def zNU:LoopState→Nat
 |.ready=>0
 |.busy=>1
 |.done=>2
 |.exhausted=>3
structure LR (γ:G) (g:Look) (c:LoopC) (T:List (Nat×AV)) (st:Nat) (j:Option Code) (r:Loop):Prop where
 ps:r.params.toList=c.ps
 asg:r.assign=c.asg
 body:r.body=c.body
 sz:c.k≤r.tmps.size
 st:zNU r.state=st
 j:r.pending=j
 er:∀t,VR γ g (get T t) (r.tmps.getD t undef)
theorem ERel.mono{γ γ':G}{g g':Look}(e:Ext γ g γ' g'){x:Tree×AV}{y:MapEntry}(h:ERel γ g x y):ERel γ' g' x y:=⟨h.1.mono e.imm,h.2.mono e⟩
theorem LR.mono{γ γ':G}{g g':Look}(e:Ext γ g γ' g'){c:LoopC}{T:List (Nat×AV)}{st:Nat}{j:Option Code}{r:Loop}(h:LR γ g c T st j r):LR γ' g' c T st j r :=
 ⟨h.ps,h.asg,h.body,h.sz,h.st,h.j,fun t=>(h.er t).mono e⟩
theorem ERel.of{γ γ':G}{g g':Look}{f:AV→AV}(hi:γ'.imm=γ.imm)(hf:∀x u,VR γ g x u→VR γ' g' (f x) u){x:Tree×AV}{y:MapEntry}(h:ERel γ g x y):ERel γ' g' (x.1,f x.2) y :=
 ⟨by rw[hi];exact h.1,hf _ _ h.2⟩
def zRu{f:AV→AV}(h0:f .unk=.unk)(t:Nat):∀(T:List (Nat×AV)),get (T.map fun e=>(e.1,f e.2)) t=f (get T t)
 |[]=>h0.symm
 |(u,v)::T=>by
  simp only[List.map_cons,get];cases Nat.beq u t with
  |true=>rfl
  |false=>exact zRu h0 t T
theorem LR.of {γ γ':G} {g g':Look} {f:AV→AV} (h0:f .unk=.unk) (hf:∀x u,VR γ g x u→VR γ' g' (f x) u) {c:LoopC} {T:List (Nat×AV)} {st:Nat} {j:Option Code} {r:Loop} (h:LR γ g c T st j r) :
  LR γ' g' c (T.map fun e=>(e.1,f e.2)) st j r :=
 ⟨h.ps,h.asg,h.body,h.sz,h.st,h.j,fun t=>by rw[zRu h0];exact hf _ _ (h.er t)⟩
def zDM(fr:Nat×Nat)(n:Nat):Prop:=∀i,i<n→¬ (fr.1≤i∧i<fr.2)
def OR(γ:G)(g:Look)(w:World)(id b:Nat):Obj→Prop
 |.box cs=>(∃c ty fr,w.heap[b]?=some (.cells c ty fr)∧zDM fr c.size∧VRs γ g cs c.toList)∧∀o,γ.imm b o=none
 |.arr s _ frz es=>(∃c ty fr,w.heap[b]?=some (.cells c ty fr)∧zDM fr c.size∧c.size=γ.sz id∧es.length * s≤c.size∧(∀e ∈ es,e.length=s) ∧
   (∀(i j:Nat) e t v,es[i]?=some e→e[j]?=some t→c[i * s+j]?=some v→TR γ.imm t v∧v.oneCell'=true) ∧
   (frz=true→∀(i j:Nat) e t,es[i]?=some e→e[j]?=some t→γ.imm b (i * s+j)=c[i * s+j]?))∧(frz=false→∀o,γ.imm b o=none)
 |.marr s _ es=>(∃c ty fr,w.heap[b]?=some (.cells c ty fr)∧zDM fr c.size∧c.size=γ.sz id∧es.length * s≤c.size∧(∀e ∈ es,e.length=s) ∧
   (∀(i j:Nat) e t v,es[i]?=some e→e[j]?=some t→c[i * s+j]?=some v→VR γ g t v))∧∀o,γ.imm b o=none
 |.siter s pos=>w.heap[b]?=some (.stringIter ⟨(s.map UInt8.ofNat).toArray⟩ pos)∧∀o,γ.imm b o=none
 |.map es=>(∃xs clock,w.heap[b]?=some (.map xs clock)∧xs.size=es.length∧∀(i:Nat) e x,es[i]?=some e→xs[i]?=some x→ERel γ g e x)∧∀o,γ.imm b o=none
 |.loop c T st j=>(∃r,w.heap[b]?=some (.loop r)∧LR γ g c T st j r)∧∀o,γ.imm b o=none
 |.dead=>False
structure HR (γ:G) (g:Look) (w:World):Prop where
 obj:∀id b,γ.β id=some b→∃o,g id=some o∧OR γ g w id b o
 inj:∀id id' b,γ.β id=some b→γ.β id'=some b→id=id'
 imm:∀b o v,γ.imm b o=some v→w.cell? ⟨b,o,none⟩=some v
theorem OR.lt{γ:G}{g:Look}{w:World}{id b:Nat}{o:Obj}(h:OR γ g w id b o):b<w.heap.size:=by
 have key:∀x,w.heap[b]?=some x→b<w.heap.size:=fun x hx=>by
  rcases Nat.lt_or_ge b w.heap.size with h|h
  ·exact h
  simp [Array.getElem?_eq_none h] at hx
 cases o with
 |box cs=>obtain⟨⟨c,ty,fr,hb,_⟩,_⟩:=h;exact key _ hb
 |arr s ver frz es=>obtain⟨⟨c,ty,fr,hb,_⟩,_⟩:=h;exact key _ hb
 |marr s ver es=>obtain⟨⟨c,ty,fr,hb,_⟩,_⟩:=h;exact key _ hb
 |siter s pos=>exact key _ h.1
 |map es=>obtain⟨⟨xs,c,hb,_⟩,_⟩:=h;exact key _ hb
 |loop c T st j=>obtain⟨⟨r,hb,_⟩,_⟩:=h;exact key _ hb
 |dead=>exact h.elim
theorem HR.lt{γ:G}{g:Look}{w:World}(h:HR γ g w){id b:Nat}(hb:γ.β id=some b):b<w.heap.size:=by
 obtain⟨o,_,ho⟩:=h.obj id b hb;exact ho.lt
structure Fr (γ:G) (w:World) (γ':G) (w':World):Prop where
 size:w.heap.size≤w'.heap.size
 keep:∀b,b<w.heap.size→(∀id,γ.β id≠some b)→w'.heap[b]?=w.heap[b]?
 rng:∀id b,γ'.β id=some b→w.heap.size≤b∨∃i,γ.β i=some b
 immr:∀b o v,γ'.imm b o=some v→γ.imm b o=some v∨w.heap.size≤b∨∃i,γ.β i=some b
 same:w'.os=w.os∧w'.output=w.output
theorem Fr.refl(γ:G)(w:World):Fr γ w γ w:=⟨Nat.le_refl _,fun _ _ _=>rfl,fun id _ h=>.inr ⟨id,h⟩,fun _ _ _ h=>.inl h,rfl,rfl⟩
theorem Fr.trans{γ₁ γ₂ γ₃:G}{w₁ w₂ w₃:World}(h:Fr γ₁ w₁ γ₂ w₂)(h':Fr γ₂ w₂ γ₃ w₃):Fr γ₁ w₁ γ₃ w₃:=by
 refine⟨Nat.le_trans h.size h'.size,fun b hb hn=>?_,fun id b hb=>?_,fun b o v hv=>?_,h'.same.1.trans h.same.1,h'.same.2.trans h.same.2⟩
 ·have h2:∀id,γ₂.β id≠some b:=fun id hid=>by
   rcases h.rng id b hid with h3|⟨i,h3⟩
   ·omega
   exact hn i h3
  rw[h'.keep b (by have:=h.size;omega) h2,h.keep b hb hn]
 ·rcases h'.rng id b hb with h3|⟨i,h3⟩
  ·exact .inl (by have:=h.size;omega)
  exact h.rng i b h3
 rcases h'.immr b o v hv with h3|h3|⟨i,h3⟩
 ·exact h.immr b o v h3
 ·exact .inr (.inl (by have:=h.size;omega))
 rcases h.rng i b h3 with h4|h4
 ·exact .inr (.inl h4)
 exact .inr (.inr h4)
def Good(γ:G)(g:Look)(w:World)(p:Patch)(v:AV)(r:Result Value):Prop :=
 ∃u w' γ',r=.ok u w'∧Ext γ g γ' (upd g p)∧HR γ' (upd g p) w'∧VR γ' (upd g p) v u∧Fr γ w γ' w'
theorem Good.pure{γ:G}{g:Look}{w:World}{v:AV}{u:Value}(h:HR γ g w)(hv:VR γ g v u):Good γ g w [] v (.ok u w) :=
 ⟨u,w,γ,rfl,.refl _ _,h,hv,.refl _ _⟩
def zDA{P:Program}{t:TypeId}{i:TypeInfo}(h:info P t=some i):P.info? t=some i:=by
 unfold info at h;rw[yP] at h;have ht:t<P.types.size:=by
  rcases Nat.lt_or_ge t P.types.toList.length with h'|h'
  ·simpa using h'
  rw[List.getElem?_eq_none h'] at h;cases h
 unfold Tables.info?;rw[if_pos ht]
 simpa using h
def vD{P:Program}{t:TypeId}{d:TypeDesc}(h:und P t=some d):P.underlying t=some d:=by
 unfold und at h;split at h
 ·rename_i i hi;have h1:=zDA hi;split at h
  ·rename_i nm u hd;split at h
   ·rename_i j hj;have h2:=zDA hj;unfold Program.underlying;rw[h1];cases i;simp only at hd;subst hd;simp [h2]
    simpa using h
   cases h
  rename_i d' hd;unfold Program.underlying;rw[h1];cases i;simp only at h hd;split
  ·rename_i hW;simp at hW;exact absurd hW.1 (by intro e;exact hd _ _ e)
  ·rename_i hW;simp at hW;subst hW;simpa using h
  rename_i hW;cases hW
 cases h
def zIe{P:Program}{t:TypeId}{n:Nat}(h:sizeOf? P t=some n):∃i,P.info? t=some i∧i.size=n:=by
 unfold sizeOf? at h;split at h
 ·rename_i i hi;exact⟨i,zDA hi,by simpa using h⟩
 cases h
def yQ{P:Program}{w:World}{t:TypeId}{d:TypeDesc}(h:und P t=some d):(underlying t).run P w=.ok d w:=by
 simp [underlying,vD h]
def vQ{P:Program}{w:World}{t:TypeId}{n:Nat}(h:sizeOf? P t=some n):(sizeOf t).run P w=.ok n w:=by
 obtain⟨i,hi,hn⟩:=zIe h;simp [sizeOf,typeInfo,hi,hn]
def zCV{P:Program}{w:World}{t:TypeId}{b:Bool}(h:agg? P t=some b):(isAgg t).run P w=.ok b w:=by
 unfold agg? at h;unfold isAgg;cases hu:und P t with
 |none=>rw[hu] at h;simp at h
 |some d=>rw[hu] at h;simp only[Sem.run_bind,yQ hu,Result.andThen_ok];cases d<;>simp_all
def vR(b o n:Nat):(⟨b,o,none⟩:Addr).add n=⟨b,o+n,none⟩:=by
 unfold Addr.add;split<;>simp_all
theorem VRs.of_trees {γ:G} {g:Look} {ts:List Tree} {vs:List Value} (hl:ts.length=vs.length)
  (h:∀(i:Nat) c v,ts[i]?=some c→vs[i]?=some v→TR γ.imm c v):VRs γ g (ts.map .t) vs:=by
 refine⟨by simpa using hl,fun i x v hx hv=>?_⟩;rw[List.getElem?_map] at hx;cases hc:ts[i]? with
 |none=>rw[hc] at hx;cases hx
 |some c=>rw[hc] at hx;cases hx;exact .t _ _ (h i c v hc hv)
def zEZ:∀ {cs:List AV} {ts:List Tree},trees cs=some ts→cs=ts.map .t
 |[],ts,h=>by simp [trees] at h;subst h;rfl
 |.t x::cs,ts,h=>by
  simp only[trees] at h;split at h
  ·cases h
  rename_i xs ky;have:=zEZ ky;cases h;subst this;rfl
 |.nov::_,_,h|.unk::_,_,h|.box _ _::_,_,h|.el _ _ _ _::_,_,h|.rp _::_,_,h|.hs _ _::_,_,h
 |.hsub _ _ _ _::_,_,h|.agg _::_,_,h|.fn _ _ _::_,_,h|.tup _::_,_,h=>by simp [trees] at h
theorem VR.of_tree{γ:G}{g:Look}{x:Tree}{v:Value}(h:VR γ g (.t x) v):TR γ.imm x v:=by cases h;assumption
theorem VRs.trees {γ:G} {g:Look} {ts:List Tree} {vs:List Value} (h:VRs γ g (ts.map .t) vs) :
  ts.length=vs.length∧∀(i:Nat) c v,ts[i]?=some c→vs[i]?=some v→TR γ.imm c v :=
 ⟨by simpa using h.1,fun i c v hc hv=>(h.2 i (.t c) v (by simp [hc]) hv).of_tree⟩
theorem VR.mkAgg{γ:G}{g:Look}{cs:List AV}{vs:List Value}(h:VRs γ g cs vs):VR γ g (mkAgg cs) (.agg vs.toArray):=by
 unfold Ab.mkAgg;split
 ·rename_i ts ke;have:=zEZ ke;subst this;obtain⟨h1,h2⟩:=h.trees;exact .t _ _ (.agg ts vs h1 h2)
 exact .agg cs vs h.1 h.2
def zJW {γ:G} {g:Look} {x:AV} {v:Value} {cs:List AV} (h:zW x=some cs) (hv:VR γ g x v) :
  ∃vs,v=.agg vs.toArray∧VRs γ g cs vs:=by
 unfold zW at h;split at h
 ·rename_i ts;cases h;cases hv with
  |t _ _ ht=>cases ht with
   |agg cs vs hl h=>exact⟨vs,rfl,.of_trees hl h⟩
 ·rename_i cs';cases h;cases hv with
  |agg cs vs hl h=>exact⟨vs,rfl,hl,h⟩
 cases h
def zB0 {γ:G} {g:Look} {x:AV} {v:Value} {cs:List AV} (h:cellsOf x=some cs) (hv:VR γ g x v) :
  VRs γ g cs v.cells.toList:=by
 unfold cellsOf at h;split at h
 ·rename_i ts;cases h;cases hv with
  |t _ _ ht=>cases ht with
   |agg cs vs hl h=>exact .of_trees hl h
 ·rename_i cs';cases h;cases hv with
  |agg cs vs hl h=>exact⟨hl,h⟩
 ·cases h
 ·cases h
 ·cases h
 ·cases h
 ·cases h
 rename_i h1 h2 h3 h4 h5 h6 h7;cases h;have key:v.cells=#[v]:=by
  cases hv with
  |t x v ht=>cases ht<;>first|rfl|exact absurd rfl (h1 _)
  |agg=>exact absurd rfl (h2 _)
  |nov=>exact absurd rfl h4
  |unk=>exact absurd rfl h3
  |tup=>exact absurd rfl (h5 _)
  |dfr=>exact absurd rfl (h6 _)
  |rnd=>exact absurd rfl h7
  |_=>rfl
 rw[key];exact .cons hv .nil
def kX{w w':World}{b o:Nat}(h:w'.heap[b]?=w.heap[b]?):w'.cell? ⟨b,o,none⟩=w.cell? ⟨b,o,none⟩:=by
 unfold World.cell?;simp only[h]
def zEL{w:World}{b o:Nat}{v:Value}(h:w.cell? ⟨b,o,none⟩=some v):b<w.heap.size:=by
 rcases Nat.lt_or_ge b w.heap.size with h'|h'
 ·exact h'
 unfold World.cell? at h;simp [Array.getElem?_eq_none h'] at h
theorem OR.mono {γ γ':G} {g g':Look} {w w':World} {id b:Nat} {o:Obj} (e:Ext γ g γ' g') (hb:w'.heap[b]?=w.heap[b]?) (hs:γ'.sz id=γ.sz id)
  (hi:∀i,γ'.imm b i=γ.imm b i) (h:OR γ g w id b o):OR γ' g' w' id b o:=by
 cases o with
 |box cs =>
  obtain⟨⟨c,ty,fr,h1,h2,h3⟩,h4⟩:=h;exact⟨⟨c,ty,fr,hb.trans h1,h2,h3.mono e⟩,fun i=>(hi i).trans (h4 i)⟩
 |arr s ver frz es =>
  obtain⟨⟨c,ty,fr,h1,h2,h3,h4,h5,h6,h7⟩,h8⟩:=h;exact⟨⟨c,ty,fr,hb.trans h1,h2,h3.trans hs.symm,h4,h5,fun i j x t v a1 a2 a3=>⟨(h6 i j x t v a1 a2 a3).1.mono e.imm,(h6 i j x t v a1 a2 a3).2⟩,
   fun hf i j x t a1 a2=>(hi _).trans (h7 hf i j x t a1 a2)⟩,fun hf i=>(hi i).trans (h8 hf i)⟩
 |marr s ver es =>
  obtain⟨⟨c,ty,fr,h1,h2,h3,h4,h5,h6⟩,h8⟩:=h;exact⟨⟨c,ty,fr,hb.trans h1,h2,h3.trans hs.symm,h4,h5,fun i j x t v a1 a2 a3=>(h6 i j x t v a1 a2 a3).mono e⟩,fun i=>(hi i).trans (h8 i)⟩
 |siter s pos=>exact⟨hb.trans h.1,fun i=>(hi i).trans (h.2 i)⟩
 |map es =>
  obtain⟨⟨xs,c,h1,h2,h3⟩,h4⟩:=h;exact⟨⟨xs,c,hb.trans h1,h2,fun i x y a1 a2=>(h3 i x y a1 a2).mono e⟩,fun i=>(hi i).trans (h4 i)⟩
 |loop c T st j =>
  obtain⟨⟨r,h1,h2⟩,h4⟩:=h;exact⟨⟨r,hb.trans h1,h2.mono e⟩,fun i=>(hi i).trans (h4 i)⟩
 |dead=>exact h.elim
def yS(g:Look)(id:Nat)(o:Obj)(i:Nat):upd g [(id,o)] i=if i=id then some o else g i:=by
 simp only[upd];cases h:Nat.beq i id with
 |true=>have:=Nat.eq_of_beq_eq_true h;simp [this]
 |false=>have:=Nat.ne_of_beq_eq_false h;simp [this]
def G.new(γ:G)(nid b n:Nat):G :=
 {β:=fun i=>if i=nid then some b else γ.β i,sz:=fun i=>if i=nid then n else γ.sz i,imm:=γ.imm }
def jR{g:Look}{id:Nat}{o:Obj}{i:Nat}(h:i≠id):cur (upd g [(id,o)]) i=cur g i:=by
 unfold cur;rw[yS,if_neg h]
def zBx{g:Look}{id:Nat}{o:Obj}{i:Nat}(h:i≠id):dims (upd g [(id,o)]) i=dims g i:=by
 unfold dims;rw[yS,if_neg h]
def zJN{g:Look}{id:Nat}(h:g id=none):cur g id=none:=by unfold cur;rw[h]
theorem Ext.new{γ:G}{g:Look}{nid:Nat}(b n:Nat)(o:Obj)(hn:γ.β nid=none)(hg:g nid=none):Ext γ g (γ.new nid b n) (upd g [(nid,o)]):=by
 refine⟨.refl _,fun id c hb hc=>?_,fun id c hc=>?_⟩
 ·have hI:id≠nid:=fun e=>by rw[e,hn] at hb;cases hb
  exact⟨by simp [G.new,hI,hb],by rw[jR hI];exact hc⟩
 have hI:id≠nid:=fun e=>by rw[e,zJN hg] at hc;cases hc
 exact⟨c,by rw[jR hI];exact hc,Nat.le_refl _,fun _=>⟨by simp [G.new,hI],by simp [G.new,hI],zBx hI⟩⟩
def zCH {γ:G} {g:Look} {w w':World} {nid n:Nat} {o:Obj} {X:Go.Obj} (hn:γ.β nid=none) (hg:g nid=none) (h:HR γ g w)
  (hw:w'.heap=w.heap.push X) (ho:OR (γ.new nid w.heap.size n) (upd g [(nid,o)]) w' nid w.heap.size o) (kj:w'.os=w.os∧w'.output=w.output:=by exact⟨rfl,rfl⟩) :
  Ext γ g (γ.new nid w.heap.size n) (upd g [(nid,o)])∧HR (γ.new nid w.heap.size n) (upd g [(nid,o)]) w'∧Fr γ w (γ.new nid w.heap.size n) w':=by
 have e:=Ext.new w.heap.size n o hn hg;have ko:∀b,b<w.heap.size→w'.heap[b]?=w.heap[b]?:=fun b hb=>by
  rw[hw,Array.getElem?_push];simp [Nat.ne_of_lt hb]
 refine⟨e,⟨fun id b hb=>?_,fun id id' b hb hP=>?_,fun b i v hv=>?_⟩,⟨by rw[hw];simp,fun b hb _=>ko b hb,fun id b hb=>?_,fun b i v hv=>.inl hv,kj⟩⟩
 ·by_cases hid:id=nid
  ·subst hid;simp [G.new] at hb;subst hb;exact⟨o,by rw[yS,if_pos rfl],ho⟩
  simp [G.new,hid] at hb;obtain⟨x,hx,hH⟩:=h.obj id b hb;refine⟨x,by rw[yS,if_neg hid];exact hx,hH.mono e (ko b hH.lt) (by simp [G.new,hid]) (fun _=>rfl)⟩
 ·by_cases hid:id=nid<;>by_cases ka:id'=nid
  ·rw[hid,ka]
  ·simp [G.new,hid] at hb;simp [G.new,ka] at hP;subst hb;have:=h.lt hP;omega
  ·simp [G.new,ka] at hP;simp [G.new,hid] at hb;subst hP;have:=h.lt hb;omega
  simp [G.new,hid] at hb;simp [G.new,ka] at hP;exact h.inj id id' b hb hP
 ·have hc:=h.imm b i v hv;rw[kX (ko b (zEL hc))];exact hc
 by_cases hid:id=nid
 ·simp [G.new,hid] at hb;exact .inl (by omega)
 simp [G.new,hid] at hb;exact .inr ⟨id,hb⟩
def jE{γ:G}{g:Look}{w:World}(h:HR γ g w)(o:Nat):γ.imm w.heap.size o=none:=by
 cases hi:γ.imm w.heap.size o with
 |none=>rfl
 |some v=>have:=zEL (h.imm _ _ _ hi);omega
def zA7(n:Nat):zDM (0,0) n:=fun i _ h=>by simp at h
def zRt {γ:G} {g:Look} {w w':World} {nid:Nat} {cs:List AV} {c:Array Value} {ty:TypeId} (hn:γ.β nid=none) (hg:g nid=none) (h:HR γ g w)
  (hw:w'.heap=w.heap.push (.cells c ty)) (hc:VRs γ g cs c.toList) (kj:w'.os=w.os∧w'.output=w.output:=by exact⟨rfl,rfl⟩) :
  Good γ g w [(nid,.box cs)] (.box nid 0) (.ok (.pointer (some ⟨w.heap.size,0,none⟩)) w'):=by
 have e:=Ext.new w.heap.size 0 (.box cs) hn hg;obtain⟨h1,h2,h3⟩:=zCH (n:=0) (w':=w') (o:=.box cs) hn hg h hw
  ⟨⟨c,ty,(0,0),by rw[hw,Array.getElem?_push];simp,zA7 _,hc.mono e⟩,fun o=>jE h o⟩ kj
 refine⟨_,w',_,rfl,h1,h2,.box nid 0 _ (by simp [G.new]) ?_,h3⟩;unfold cur;rw[yS,if_pos rfl]
def zMD {γ:G} {g:Look} {w w':World} {nid s cap:Nat} {es:List (List Tree)} {c:Array Value} {ty:TypeId} {fr:Nat×Nat} (hn:γ.β nid=none) (hg:g nid=none)
  (h:HR γ g w) (hw:w'.heap=w.heap.push (.cells c ty fr)) (qv:zDM fr c.size) (hl:∀e ∈ es,e.length=s) (hJ:es.length≤cap) (hQ:c.size=cap * s)
  (hc:∀(i j:Nat) e t v,es[i]?=some e→e[j]?=some t→c[i * s+j]?=some v→TR γ.imm t v∧v.oneCell'=true) (kj:w'.os=w.os∧w'.output=w.output:=by exact⟨rfl,rfl⟩) :
  Good γ g w [(nid,.arr s 0 false es)] (.hs nid 0) (.ok (.slice (some ⟨w.heap.size,0,none⟩) es.length cap) w'):=by
 obtain⟨h1,h2,h3⟩:=zCH (n:=c.size) (w':=w') (o:=.arr s 0 false es) hn hg h hw
  ⟨⟨c,ty,fr,by rw[hw,Array.getElem?_push];simp,qv,by simp [G.new],by rw[hQ];exact Nat.mul_le_mul_right s hJ,hl,hc,fun hf=>by cases hf⟩,fun _ o=>jE h o⟩ kj
 have hF:cur (upd g [(nid,.arr s 0 false es)]) nid=some 0:=by unfold cur;rw[yS,if_pos rfl]
 refine⟨_,w',_,rfl,h1,h2,.hs nid 0 _ _ _ ⟨0,hF,Nat.le_refl _⟩ fun _=>⟨w.heap.size,s,by simp [G.new],?_,rfl,hJ,by simp [G.new];omega⟩,h3⟩;unfold dims;rw[yS,if_pos rfl]
def zWC {γ:G} {g:Look} {w w':World} {nid s cap:Nat} {es:List (List AV)} {c:Array Value} {ty:TypeId} (hn:γ.β nid=none) (hg:g nid=none)
  (h:HR γ g w) (hw:w'.heap=w.heap.push (.cells c ty)) (hl:∀e ∈ es,e.length=s) (hJ:es.length≤cap) (hQ:c.size=cap * s)
  (hc:∀(i j:Nat) e t v,es[i]?=some e→e[j]?=some t→c[i * s+j]?=some v→VR γ g t v) (kj:w'.os=w.os∧w'.output=w.output:=by exact⟨rfl,rfl⟩) :
  Good γ g w [(nid,.marr s 0 es)] (.hs nid 0) (.ok (.slice (some ⟨w.heap.size,0,none⟩) es.length cap) w'):=by
 have e:=Ext.new w.heap.size c.size (.marr s 0 es) hn hg;obtain⟨h1,h2,h3⟩:=zCH (n:=c.size) (w':=w') (o:=.marr s 0 es) hn hg h hw
  ⟨⟨c,ty,(0,0),by rw[hw,Array.getElem?_push];simp,zA7 _,by simp [G.new],by rw[hQ];exact Nat.mul_le_mul_right s hJ,hl,
   fun i j x t v a1 a2 a3=>(hc i j x t v a1 a2 a3).mono e⟩,fun o=>jE h o⟩ kj
 have hF:cur (upd g [(nid,.marr s 0 es)]) nid=some 0:=by unfold cur;rw[yS,if_pos rfl]
 refine⟨_,w',_,rfl,h1,h2,.hs nid 0 _ _ _ ⟨0,hF,Nat.le_refl _⟩ fun _=>⟨w.heap.size,s,by simp [G.new],?_,rfl,hJ,by simp [G.new];omega⟩,h3⟩;unfold dims;rw[yS,if_pos rfl]
theorem TR.bytes(I:Imm)(s:ByteArray):TR I (.str (s.data.toList.map UInt8.toNat)) (.string s):=by
 have h:=TR.str (I:=I) (s.data.toList.map UInt8.toNat) (fun b hb=>by
  obtain⟨c,_,rfl⟩:=List.mem_map.1 hb;exact c.toNat_lt)
 have e:((s.data.toList.map UInt8.toNat).map UInt8.ofNat).toArray=s.data:=by
  rw[List.map_map];have:(UInt8.ofNat ∘ UInt8.toNat)=id:=by funext c;simp
  rw[this];simp
 rw[e] at h;exact h
def zQ4{I:Imm}{v:Value}{x:Tree}(h:lit1 v=some x):TR I x v:=by
 unfold lit1 at h;split at h<;>first|(cases h;done)|skip
 ·cases h;exact .bool _
 ·cases h;exact .int _ _
 ·cases h;exact .bytes I _
 ·cases h;exact .nilptr
 ·cases h;exact .sl true true [] none 0 0 (fun _ _=>undef) (fun _=>⟨rfl,rfl,rfl⟩) (fun hh=>by cases hh) (fun _ he=>by simp at he) (fun _ _ _ _ he=>by simp at he) (Nat.le_refl _) (fun _=>rfl) (fun _ _ _ _ he=>by simp at he)
 ·cases h;exact .nilmap
 ·split at h
  ·rename_i a b qf;cases h;simp at qf;obtain⟨rfl,rfl⟩:=qf;exact .fn _
  cases h
 ·cases h;exact .nilfn
 cases h;exact .nilifc
def zQ2{I:Imm}:∀ {vs:List Value} {xs:List Tree},lits vs=some xs→xs.length=vs.length∧∀(i:Nat) c v,xs[i]?=some c→vs[i]?=some v→TR I c v
 |[],xs,h=>by simp [lits] at h;subst h;exact⟨rfl,fun _ _ _ hc=>by simp at hc⟩
 |v::vs,xs,h=>by
  simp only[lits] at h;split at h
  ·cases h
  rename_i x hx;split at h
  ·cases h
  rename_i xs' ky;cases h;obtain⟨h1,h2⟩:=zQ2 (I:=I) ky;refine⟨by simp [h1],fun i c u hc hu=>?_⟩;cases i with
  |zero=>simp at hc hu;subst hc;subst hu;exact zQ4 hx
  |succ i=>exact h2 i c u (by simpa using hc) (by simpa using hu)
def zPD{γ:G}{g:Look}(v:Value):VR γ g (lit v) v:=by
 unfold lit;split
 ·rename_i cs;split
  ·rename_i ts ke;obtain⟨h1,h2⟩:=zQ2 (I:=γ.imm) ke;exact .t _ _ (by have:=TR.agg ts cs.toList h1 h2;simpa using this)
  exact .unk _
 rename_i v' hv;split
 ·rename_i x hx;exact .t _ _ (zQ4 hx)
 exact .unk _
def ER(γ:G)(g:Look)(T:Env)(a:Act):Prop:=∀t,VR γ g (get T t) (a.tmps.getD t undef)
def yB{γ:G}{g:Look}{T:Env}{a:Act}(h:ER γ g T a)(x:Operand):VR γ g (zN T x) (a.eval x):=by
 cases x with
 |tmp t=>exact h t
 |const v=>exact zPD v
 |global gl=>exact .unk _
 |func f=>exact .t _ _ (.fn f)
def zFz {P:Program} {γ:G} {g:Look} {t:TypeId} {cs:List AV} (h:zeroCells P t=some cs) :
  ∃i z,P.info? t=some i∧i.zero=some z∧VRs γ g cs z.cells.toList:=by
 unfold zeroCells at h;split at h
 ·rename_i i hi;split at h
  ·rename_i z hz;have hv:=zPD (γ:=γ) (g:=g) z;refine⟨i,z,zDA hi,hz,?_⟩;split at h
   ·rename_i ts hl;rw[hl] at hv;cases h;exact zB0 (x:=.t (.agg ts)) rfl hv
   ·rename_i x hx hl;rw[hl] at hv;cases h;refine zB0 (x:=.t x) ?_ hv;unfold cellsOf;split<;>first|rfl|(rename_i hW;cases hW;done)|(rename_i hW;cases hW;exact absurd rfl (hx _))
   cases h
  cases h
 cases h
def zFo{P:Program}{w:World}{t:TypeId}{i:TypeInfo}{z:Value}(hi:P.info? t=some i)(hz:i.zero=some z):(zeroValue t).run P w=.ok z w:=by
 simp [zeroValue,typeInfo,hi,hz]
def zV0 {P:Program} {γ:G} {g:Look} {w:World} {nid:Nat} {t:TypeId} {v:AV} {p:Patch} (h:HR γ g w) (hn:γ.β nid=none) (hg:g nid=none)
  (hx:jB P nid t=some (.val v,p)):Good γ g w p v ((Instr.alloc t true (.tuple #[])).run P w):=by
 unfold jB at hx;split at hx
 ·rename_i cs hN;cases hx;obtain⟨i,z,hi,hz,hv⟩:=zFz (γ:=γ) (g:=g) hN;simp only[Instr.alloc,Sem.run_bind,zFo hi hz,Result.andThen_ok,newVar,newRow,run_newObj,Sem.run_pure];exact zRt (ty:=t) hn hg h rfl hv
 cases hx
def zYQ {P:Program} {γ:G} {g:Look} {w:World} {nid:Nat} {t:TypeId} {x v:AV} {u:Value} {p:Patch} (h:HR γ g w) (hn:γ.β nid=none) (hg:g nid=none)
  (hv:VR γ g x u) (hx:xBox nid x=some (.val v,p)):Good γ g w p v ((Instr.box t u).run P w):=by
 unfold xBox at hx;split at hx
 ·rename_i cs hN;cases hx;simp only[Instr.box,newVar,newRow,Sem.run_bind,run_newObj,Result.andThen_ok,Sem.run_pure];exact zRt (ty:=t) hn hg h rfl (zB0 hN hv)
 cases hx
def zBU{w:World}{b o:Nat}{c:Array Value}{ty:TypeId}{fr:Nat×Nat}(h:w.heap[b]?=some (.cells c ty fr)):w.cell? ⟨b,o,none⟩=c[o]?:=by
 unfold World.cell?;simp [h]
def zDi {w:World} {b o:Nat} {c:Array Value} {ty:TypeId} {fr:Nat×Nat} (h:w.heap[b]?=some (.cells c ty fr)) (hu:zDM fr c.size) (ho:o<c.size) :
  w.frozen? ⟨b,o,none⟩=false:=by
 unfold World.frozen?;simp only[h];have:=hu o ho;obtain⟨lo,hi⟩:=fr;simp at this ⊢;exact this
def wA{i n s k:Nat}(h:i<n)(hk:k≤s):i * s+k≤n * s:=by
 have:(i+1) * s≤n * s:=Nat.mul_le_mul_right s h;rw[Nat.add_mul] at this;omega
def zQ{α:Type}{l:List α}{i:Nat}{x:α}(h:l[i]?=some x):i<l.length:=by
 rcases Nat.lt_or_ge i l.length with h'|h'
 ·exact h'
 rw[List.getElem?_eq_none h'] at h;cases h
def zDb {γ:G} {g:Look} {w:World} {n:Nat} {a:AV} {u:Value} {cs:List AV} (h:HR γ g w) (hx:loadCells g n a=some cs) (hv:VR γ g a u) :
  ∃b o vs,u=.pointer (some ⟨b,o,none⟩)∧vs.length=n∧VRs γ g cs vs∧∀(j:Nat) v,vs[j]?=some v→w.cell? ⟨b,o+j,none⟩=some v:=by
 unfold loadCells at hx;split at hx
 ·rename_i id off;split at hx
  ·rename_i cells hg;cases hv with
   |box _ _ b hb hc =>
    obtain⟨o,ho,hH⟩:=h.obj id b hb;rw[hg] at ho;cases ho;obtain⟨⟨c,ty,fr,h1,h2,h3⟩,_⟩:=hH;have hl:=zAc hx;have hL:=h3.1;simp at hL;refine⟨b,off,(c.toList.drop off).take n,rfl,by simp;omega,⟨by rw[vM hx];simp;omega,fun i x v hX kg=>?_⟩,fun j v hj=>?_⟩
    ·have hi:i<n:=by have:=zQ hX;rw[vM hx] at this;exact this
     rw[zDD hx hi] at hX;rw[List.getElem?_take_of_lt hi,List.getElem?_drop] at kg;exact h3.2 _ _ _ hX kg
    have hi:j<n:=by have:=zQ hj;simp at this;omega
    rw[List.getElem?_take_of_lt hi,List.getElem?_drop] at hj;rw[zBU h1];simpa using hj
  cases hx
 ·rename_i id ver i off;split at hx
  ·rename_i s hA frz es hg;split at hx
   ·rename_i hR;split at hx
    ·rename_i e he;split at hx
     ·rename_i ts ke;cases hx;cases hv with
      |el _ _ _ _ ad ho hh =>
       have hF:cur g id=some ver:=by unfold cur;rw[hg];simp [hR]
       obtain⟨b,s',n',hb,hd,rfl⟩:=hh hF;have nk:s=s':=by unfold dims at hd;rw[hg] at hd;simp at hd;exact hd.1
       subst nk;obtain⟨o,h9,hH⟩:=h.obj id b hb;rw[hg] at h9;cases h9;obtain⟨⟨c,ty,fr,h1,h2,h3,h4,h5,h6,h7⟩,_⟩:=hH;rw[yP] at he;have kk:=zQ he;have md:=h5 e (List.mem_of_getElem? he);have hl:=zAc ke;have hJ:=wA kk (k:=off+n) (s:=s) (by omega);refine⟨b,i * s+off,(c.toList.drop (i * s+off)).take n,rfl,by simp;omega,⟨by rw[List.length_map,vM ke];simp;omega,fun k x v hX kg=>?_⟩,fun j v hj=>?_⟩
       ·have hk:k<n:=by have:=zQ hX;rw[List.length_map,vM ke] at this;exact this
        rw[List.getElem?_map,zDD ke hk] at hX;rw[List.getElem?_take_of_lt hk,List.getElem?_drop] at kg;cases hc:e[off+k]? with
        |none=>rw[hc] at hX;cases hX
        |some t =>
         rw[hc] at hX;cases hX;exact .t _ _ (h6 i (off+k) e t v he hc (by rw[← Nat.add_assoc];simpa using kg)).1
       have hi:j<n:=by have:=zQ hj;simp at this;omega
       rw[List.getElem?_take_of_lt hi,List.getElem?_drop] at hj;rw[zBU h1];simpa using hj
     cases hx
    cases hx
   cases hx
  ·rename_i s hA es hg;split at hx
   ·rename_i hR;split at hx
    ·rename_i e he;cases hv with
     |el _ _ _ _ ad ho hh =>
      have hF:cur g id=some ver:=by unfold cur;rw[hg];simp [hR]
      obtain⟨b,s',n',hb,hd,rfl⟩:=hh hF;have nk:s=s':=by unfold dims at hd;rw[hg] at hd;simp at hd;exact hd.1
      subst nk;obtain⟨o,h9,hH⟩:=h.obj id b hb;rw[hg] at h9;cases h9;obtain⟨⟨c,ty,fr,h1,h2,h3,h4,h5,h6⟩,_⟩:=hH;rw[yP] at he;have kk:=zQ he;have md:=h5 e (List.mem_of_getElem? he);have hl:=zAc hx;have hJ:=wA kk (k:=off+n) (s:=s) (by omega);refine⟨b,i * s+off,(c.toList.drop (i * s+off)).take n,rfl,by simp;omega,⟨by rw[vM hx];simp;omega,fun k x v hX kg=>?_⟩,fun j v hj=>?_⟩
      ·have hk:k<n:=by have:=zQ hX;rw[vM hx] at this;exact this
       rw[zDD hx hk] at hX;rw[List.getElem?_take_of_lt hk,List.getElem?_drop] at kg;exact h6 i (off+k) e x v he hX (by rw[← Nat.add_assoc];simpa using kg)
      have hi:j<n:=by have:=zQ hj;simp at this;omega
      rw[List.getElem?_take_of_lt hi,List.getElem?_drop] at hj;rw[zBU h1];simpa using hj
    cases hx
   cases hx
  cases hx
 ·rename_i ts;split at hx
  ·rename_i ts' ke;cases hx;cases hv with
   |rp _ b o val h1 h2 =>
    have hl:=zAc ke;refine⟨b,o,(List.range n).map val,rfl,by simp,⟨by rw[List.length_map,vM ke];simp,fun k x v hX kg=>?_⟩,fun j v hj=>?_⟩
    ·have hk:k<n:=by have:=zQ hX;rw[List.length_map,vM ke] at this;exact this
     rw[List.getElem?_map,zDD ke hk] at hX;simp [hk] at kg;subst kg;cases hc:ts[0+k]? with
     |none=>rw[hc] at hX;cases hX
     |some t=>rw[hc] at hX;cases hX;exact .t _ _ (h2 k t (by simpa using hc))
    have hk:j<n:=by have:=zQ hj;simpa using this
    simp [hk] at hj;subst hj;obtain⟨t,ht⟩:∃t,ts[j]?=some t:=⟨ts[j]'(by omega),List.getElem?_eq_getElem (by omega)⟩;exact h.imm _ _ _ (h1 j t ht)
  cases hx
 cases hx
def zV4 {P:Program} {γ:G} {g:Look} {w:World} {t:TypeId} {a v:AV} {u:Value} (h:HR γ g w) (hv:VR γ g a u) (hx:load P g t a=some v) :
  Good γ g w [] v ((Instr.loadAt t u).run P w):=by
 unfold load at hx;split at hx
 ·rename_i mR;split at hx
  ·rename_i n hn;split at hx
   ·rename_i cs hN;cases hx;obtain⟨b,o,vs,rfl,hl,mb,hc⟩:=zDb h hN hv;have hD:=run_loadCells_list (P:=P) w ⟨b,o,none⟩ vs (fun j x hj=>by rw[vR];exact hc j x hj);rw[hl] at hD;simp only[Instr.loadAt,Instr.sureAddr,loadVar,Sem.run_bind,Sem.run_pure,Result.andThen_ok,zCV mR,if_true,vQ hn,hD];exact .pure h (.mkAgg mb)
   cases hx
  cases hx
 ·rename_i mR;split at hx
  ·rename_i v' hN;cases hx;obtain⟨b,o,vs,rfl,hl,mb,hc⟩:=zDb h hN hv;obtain⟨v0,vs',rfl,h0,_⟩:=mb.cases_cons;have qg:=hc 0 v0 rfl;simp only[Nat.add_zero] at qg;have qw:(Go.load ⟨b,o,none⟩).run P w=.ok v0 w:=by rw[run_load];simp [qg]
   simp only[Instr.loadAt,Instr.sureAddr,loadVar,Sem.run_bind,Sem.run_pure,Result.andThen_ok,zCV mR,Bool.false_eq_true,if_false,qw];exact .pure h h0
  cases hx
 cases hx
def zQO{p:Patch}{g:Look}{id:Nat}{o:Obj}(hY:∀o',(id,o') ∈ p→o'=o)(me:g id=some o∨∃o',(id,o') ∈ p):upd g p id=some o:=by
 induction p generalizing g with
 |nil =>
      rcases me with h|⟨o',h⟩
      ·exact h
      cases h
 |cons x p ih =>
  obtain⟨i,o''⟩:=x;simp only[upd];refine ih (fun o' h=>hY o' (List.mem_cons_of_mem _ h)) ?_
  by_cases hi:id=i
  ·subst hi;have:o''=o:=hY o'' (by simp);subst this
   left;simp
  have hb:Nat.beq id i=false:=by cases h:Nat.beq id i with
   |true=>exact absurd (Nat.eq_of_beq_eq_true h) hi
   |false=>rfl
  rcases me with h|⟨o',h⟩
  ·left;simp [hb,h]
  right
  rcases List.mem_cons.1 h with h|h
  ·cases h;exact absurd rfl hi
  exact⟨o',h⟩
def qY(g:Look)(p:Patch):Prop:=∀id o,(id,o) ∈ p→∃s ver frz es,g id=some (.arr s ver frz es)∧o=.arr s ver true es
def vW(g:Look):∀ids,qY g (xF g ids)
 |[]=>fun _ _ h=>by cases h
 |i::ids=>fun id o h=>by
  simp only[xF] at h;split at h
  ·rename_i s ver frz es hg;rcases List.mem_cons.1 h with h|h
   ·cases h;exact⟨s,ver,frz,es,hg,rfl⟩
   exact vW g ids id o h
  exact vW g ids id o h
def zDq{g:Look}{id:Nat}{s ver:Nat}{frz:Bool}{es:List (List Tree)}(hg:g id=some (.arr s ver frz es)):∀ {ids:List Nat},id ∈ ids→(id,.arr s ver true es) ∈ xF g ids
 |i::ids,h=>by
  simp only[xF];rcases List.mem_cons.1 h with h|h
  ·subst h;rw[hg];simp
  have:=zDq hg h;split
  ·exact List.mem_cons_of_mem _ this
  exact this
theorem qY.upd_eq {g:Look} {p:Patch} (h:qY g p) {id:Nat} {s ver:Nat} {frz:Bool} {es:List (List Tree)} (hg:g id=some (.arr s ver frz es))
  (me:∃o,(id,o) ∈ p):upd g p id=some (.arr s ver true es):=by
 refine zQO (fun o' h9=>?_) (.inr me);obtain⟨s',hA,frz',es',h1,h2⟩:=h id o' h9;rw[hg] at h1;cases h1;exact h2
def G.freeze1(γ:G)(b n:Nat)(c:Array Value):G :=
 {γ with imm:=fun b' o=>match γ.imm b' o with
  |some v=>some v
  |none=>if b'=b∧o<n then c[o]? else none }
def zQa {γ:G} {g:Look} {w:World} (h:HR γ g w) {id s ver:Nat} {frz:Bool} {es:List (List Tree)} (hg:g id=some (.arr s ver frz es)) :
  ∃ γ',Ext γ g γ' (upd g [(id,.arr s ver true es)])∧HR γ' (upd g [(id,.arr s ver true es)]) w∧Fr γ w γ' w∧γ'.β=γ.β:=by
 have hF:∀i,cur (upd g [(id,.arr s ver true es)]) i=cur g i:=fun i=>by
  by_cases hi:i=id
  ·subst hi;unfold cur;rw[yS,if_pos rfl,hg]
  exact jR hi
 have kx:∀i,dims (upd g [(id,.arr s ver true es)]) i=dims g i:=fun i=>by
  by_cases hi:i=id
  ·subst hi;unfold dims;rw[yS,if_pos rfl,hg]
  exact zBx hi
 cases hb:γ.β id with
 |none =>
  have e:Ext γ g γ (upd g [(id,.arr s ver true es)]):=⟨.refl _,fun i b hb hc=>⟨hb,by rw[hF];exact hc⟩,fun i c hc=>⟨c,by rw[hF];exact hc,Nat.le_refl _,fun _=>⟨rfl,rfl,kx i⟩⟩⟩
  refine⟨γ,e,⟨fun i b hS=>?_,h.inj,h.imm⟩,.refl _ _,rfl⟩;obtain⟨o,ho,hH⟩:=h.obj i b hS;have hi:i≠id:=fun hh=>by rw[hh,hb] at hS;cases hS
  exact⟨o,by rw[yS,if_neg hi];exact ho,hH.mono e rfl rfl (fun _=>rfl)⟩
 |some b =>
  obtain⟨o,ho,hH⟩:=h.obj id b hb;rw[hg] at ho;cases ho;obtain⟨⟨c,ty,fr,h1,h2,h3,h4,h5,h6,h7⟩,h8⟩:=hH;have hJ:uU γ.imm (γ.freeze1 b (es.length * s) c).imm:=fun b' o v hv=>by simp [G.freeze1,hv]
  have e:Ext γ g (γ.freeze1 b (es.length * s) c) (upd g [(id,.arr s ver true es)]):=⟨hJ,fun i b hb hc=>⟨hb,by rw[hF];exact hc⟩,
   fun i c' hc=>⟨c',by rw[hF];exact hc,Nat.le_refl _,fun _=>⟨rfl,rfl,kx i⟩⟩⟩
  have mH:∀o,w.cell? ⟨b,o,none⟩=c[o]?:=fun o=>zBU h1
  refine⟨γ.freeze1 b (es.length * s) c,e,⟨fun i b' hS=>?_,h.inj,fun b' o v hv=>?_⟩,⟨Nat.le_refl _,fun _ _ _=>rfl,fun i b' hS=>.inr ⟨i,hS⟩,fun b' o v hv=>?_,rfl,rfl⟩,rfl⟩
  ·by_cases hi:i=id
   ·subst hi;have mv:b'=b:=by have:γ.β i=some b':=hS;rw[hb] at this;cases this;rfl
    subst mv;refine⟨.arr s ver true es,by rw[yS,if_pos rfl],⟨c,ty,fr,h1,h2,h3,h4,h5,fun i j x t v a1 a2 a3=>⟨(h6 i j x t v a1 a2 a3).1.mono hJ,(h6 i j x t v a1 a2 a3).2⟩,fun _ i j x t a1 a2=>?_⟩,fun hf=>by cases hf⟩;have kk:=zQ a1;have m8:=zQ a2;have qh:=h5 x (List.mem_of_getElem? a1);have rx:=wA kk (k:=j+1) (s:=s) (by omega);simp only[G.freeze1];cases hi:γ.imm b' (i * s+j) with
    |some v=>have:=h.imm _ _ _ hi;rw[mH] at this;rw[this]
    |none=>simp;intro hh;omega
   obtain⟨o,ho,hH⟩:=h.obj i b' hS;have mv:b'≠b:=fun hh=>hi (h.inj i id b (hh ▸ hS) hb)
   exact⟨o,by rw[yS,if_neg hi];exact ho,hH.mono e rfl rfl (fun o=>by simp only[G.freeze1];split<;>simp_all)⟩
  ·simp only[G.freeze1] at hv;split at hv
   ·rename_i v' mI;cases hv;exact h.imm _ _ _ mI
   split at hv
   ·rename_i hh;obtain⟨rfl,_⟩:=hh;rw[mH];exact hv
   cases hv
  simp only[G.freeze1] at hv;split at hv
  ·rename_i v' mI;cases hv;exact .inl mI
  split at hv
  ·rename_i hh;obtain⟨rfl,_⟩:=hh;exact .inr (.inr ⟨id,hb⟩)
  cases hv
def jX(g:Look):∀(p q:Patch),upd g (p++q)=upd (upd g p) q
 |[],q=>rfl
 |(i,o)::p,q=>by simp only[List.cons_append,upd];exact jX _ p q
def zDk{w:World}:∀ {p:Patch} {γ:G} {g:Look},HR γ g w→qY g p→∃ γ',Ext γ g γ' (upd g p)∧HR γ' (upd g p) w∧Fr γ w γ' w∧γ'.β=γ.β
 |[],γ,g,h,_=>⟨γ,.refl _ _,h,.refl _ _,rfl⟩
 |(id,o)::p,γ,g,h,hp=>by
  obtain⟨s,ver,frz,es,hg,rfl⟩:=hp id o (by simp);obtain⟨γ₁,e1,h1,f1,b1⟩:=zQa h hg;have nD:qY (upd g [(id,.arr s ver true es)]) p:=fun i o' h9=>by
   obtain⟨s',hA,frz',es',nE,rfl⟩:=hp i o' (List.mem_cons_of_mem _ h9);rw[yS]
   by_cases hi:i=id
   ·subst hi;rw[hg] at nE;cases nE;exact⟨_,_,true,_,by rw[if_pos rfl],rfl⟩
   exact⟨_,_,frz',_,by rw[if_neg hi];exact nE,rfl⟩
  obtain⟨γ₂,e2,h2,f2,b2⟩:=zDk h1 nD;have hu:upd g ((id,.arr s ver true es)::p)=upd (upd g [(id,.arr s ver true es)]) p:=jX g [(id,_)] p;rw[hu];exact⟨γ₂,e1.trans e2,h2,f1.trans f2,b2.trans b1⟩
def zNk {γ:G} {g:Look} {w:World} (h:HR γ g w) {id s ver b:Nat} {es es':List (List Tree)} (hg:g id=some (.arr s ver true es)) (hb:γ.β id=some b)
  {lo len cap:Nat} (hc:cut es lo len=some es') {a:Addr} (ha:len≠0→a=⟨b,lo * s,none⟩) (nn:len≤cap):TR γ.imm (.sl false false es') (.slice (some a) len cap):=by
 obtain⟨o,ho,hH⟩:=h.obj id b hb;rw[hg] at ho;cases ho;obtain⟨⟨c,ty,fr,h1,h2,h3,h4,h5,h6,h7⟩,_⟩:=hH;have hL:=vM hc;have hN:=zAc hc;have hU:∀(i:Nat) e,es'[i]?=some e→es[lo+i]?=some e:=fun i e he=>by
  have hi:i<len:=by have:=zQ he;omega
  rw[zDD hc hi] at he;exact he
 have kz:∀(i j:Nat) e t,es'[i]?=some e→e[j]?=some t→c[lo * s+i * s+j]?=some (c.getD (lo * s+i * s+j) undef):=fun i j e t he ht=>by
  have kk:=zQ (hU i e he);have md:=h5 e (List.mem_of_getElem? (hU i e he));have m8:=zQ ht;have:=wA kk (k:=j+1) (s:=s) (by omega);rw[Nat.add_mul] at this;have kc:lo * s+i * s+j<c.size:=by omega
  simp [Array.getElem?_eq_getElem kc]
 have key:=TR.sl (I:=γ.imm) false false es' (some a) cap s (fun i j=>c.getD (lo * s+i * s+j) undef) (fun hh=>by cases hh)
  (fun _=>⟨by simp,b,lo * s,fun hI=>by rw[ha (fun h0=>hI (List.eq_nil_of_length_eq_zero (by omega)))],fun i j e t he ht=>by
   have:=h7 rfl (lo+i) j e t (hU i e he) ht;rw[Nat.add_mul] at this;rw[this];exact kz i j e t he ht⟩)
  (fun e he=>by
   obtain⟨i,hi⟩:=List.getElem?_of_mem he;exact h5 e (List.mem_of_getElem? (hU i e hi)))
  (fun i j e t he ht=>(h6 (lo+i) j e t _ (hU i e he) ht (by rw[Nat.add_mul];exact kz i j e t he ht)).1)
  (by omega) (fun hh=>by cases hh) (fun i j e t he ht=>(h6 (lo+i) j e t _ (hU i e he) ht (by rw[Nat.add_mul];exact kz i j e t he ht)).2)
 rw[hL] at key;exact key
def zKe{g:Look}{id ver:Nat}{es:List (List Tree)}(h:elems g (.hs id ver)=some es):∃s frz,g id=some (.arr s ver frz es):=by
 simp only[elems] at h;split at h
 ·rename_i s hA frz es' hg;split at h
  ·rename_i hv;cases h;exact⟨s,frz,by rw[hg,hv]⟩
  cases h
 cases h
def zHv{g:Look}{id ver lo len:Nat}{es:List (List Tree)}(h:elems g (.hsub id ver lo len)=some es):∃s frz es0,g id=some (.arr s ver frz es0)∧cut es0 lo len=some es:=by
 simp only[elems] at h;split at h
 ·rename_i s hA frz es' hg;split at h
  ·rename_i hv;exact⟨s,frz,es',by rw[hg,hv],h⟩
  cases h
 cases h
def qW{g:Look}{id s ver:Nat}{frz:Bool}{es:List (List Tree)}(h:g id=some (.arr s ver frz es)):cur g id=some ver:=by unfold cur;rw[h]
def vO{g:Look}{id s ver:Nat}{frz:Bool}{es:List (List Tree)}(h:g id=some (.arr s ver frz es)):dims g id=some (s,es.length):=by unfold dims;rw[h]
def zRn{α:Type}(l:List α):cut l 0 l.length=some l:=by unfold cut;simp
def zQu {γ:G} {g:Look} {w:World} (h:HR γ g w) {id s ver:Nat} {es:List (List Tree)} {u:Value} (hg:g id=some (.arr s ver true es))
  (hv:VR γ g (.hs id ver) u):VR γ g (.t (.sl false false es)) u:=by
 cases hv with
 |hs _ _ a n cap ho hh =>
  obtain⟨b,s',hb,hd,rfl,hJ,_⟩:=hh (qW hg);rw[vO hg] at hd;cases hd;exact .t _ _ (zNk h hg hb (zRn es) (fun _=>by simp) hJ)
def zNY {γ:G} {g:Look} {w:World} (h:HR γ g w) {id s ver lo len:Nat} {es es':List (List Tree)} {u:Value} (hg:g id=some (.arr s ver true es))
  (hc:cut es lo len=some es') (hv:VR γ g (.hsub id ver lo len) u):VR γ g (.t (.sl false false es')) u:=by
 cases hv with
 |hsub _ _ _ _ a cap ho hh =>
  obtain⟨b,s',n,hb,hd,hJ,k0,ha⟩:=hh (qW hg);rw[vO hg] at hd;cases hd;exact .t _ _ (zNk h hg hb hc ha hJ)
def zGU {γ:G} {g g':Look} {w:World} (h:HR γ g' w) {x:AV} {u:Value} (hp:∀id ∈ yO g x,∀s ver frz es,g id=some (.arr s ver frz es)→g' id=some (.arr s ver true es))
  (hv:VR γ g' x u):VR γ g' (view g x) u:=by
 unfold view;split
 ·rename_i id ver;split
  ·rename_i es he;obtain⟨s,frz,hg⟩:=zKe he;have:id ∈ yO g (.hs id ver):=by simp only[yO,he];simp
   exact zQu h (hp id this _ _ _ _ hg) hv
  exact hv
 ·rename_i id ver lo len;split
  ·rename_i es he;obtain⟨s,frz,es0,hg,hc⟩:=zHv he;have:id ∈ yO g (.hsub id ver lo len):=by simp only[yO,he];simp
   exact zNY h (hp id this _ _ _ _ hg) hc hv
  exact hv
 ·rename_i cs;cases hv with
  |agg _ vs hl hh =>
   refine .mkAgg ⟨by simpa using hl,fun i c v hc kg=>?_⟩;rw[List.getElem?_map] at hc;cases my:cs[i]? with
   |none=>rw[my] at hc;cases hc
   |some c0 =>
    rw[my] at hc;cases hc;have mJ:=hh i c0 v my kg;have no:c0 ∈ cs:=List.mem_of_getElem? my;have hsub:∀id,id ∈ (match c0 with
      |.hs id ver=>(match elems g (.hs id ver) with|some _=>[id]|none=>[])
      |.hsub id ver lo len=>(match elems g (.hsub id ver lo len) with|some _=>[id]|none=>[])
      |_=>[])→id ∈ yO g (.agg cs):=fun id hid=>by
     simp only[yO];clear hh hl my hp mJ kg
     induction cs with
     |nil=>cases no
     |cons d ds ih =>
      simp only[catMap,List.mem_append];rcases List.mem_cons.1 no with hm|hm
      ·subst hm;exact .inl hid
      exact .inr (ih hm)
    dsimp only;split
    ·rename_i id ver;split
     ·rename_i es he;obtain⟨s,frz,hg⟩:=zKe he;exact zQu h (hp id (hsub id (by simp [he])) _ _ _ _ hg) mJ
     exact mJ
    ·rename_i id ver lo len;split
     ·rename_i es he;obtain⟨s,frz,es0,hg,hc⟩:=zHv he;exact zNY h (hp id (hsub id (by simp [he])) _ _ _ _ hg) hc mJ
     exact mJ
    exact mJ
 exact hv
def zSk {γ:G} {g:Look} {w:World} {x:AV} {u:Value} (h:HR γ g w) (hv:VR γ g x u) :
  ∃ γ',Ext γ g γ' (upd g (uS g x).2)∧HR γ' (upd g (uS g x).2) w∧Fr γ w γ' w∧γ'.β=γ.β∧VR γ' (upd g (uS g x).2) (uS g x).1 u:=by
 obtain⟨γ',e,h',f,hb⟩:=zDk h (vW g (yO g x));refine⟨γ',e,h',f,hb,zGU h' (fun id hid s ver frz es hg=>?_) (hv.mono e)⟩;exact(vW g (yO g x)).upd_eq hg ⟨_,zDq hg hid⟩
def zA1(b:Nat)(ty:TypeId)(fr:Nat×Nat):∀(vs:List Value) (o:Nat) (w:World) (c:Array Value),w.heap[b]?=some (.cells c ty fr)→o+vs.length≤c.size →
  ∃c',(w.setCells b o vs).heap[b]?=some (.cells c' ty fr)∧c'.size=c.size∧(∀i,c'[i]?=if o≤i∧i<o+vs.length then vs[i - o]? else c[i]?) ∧
   (∀b',b'≠b→(w.setCells b o vs).heap[b']?=w.heap[b']?)∧(w.setCells b o vs).heap.size=w.heap.size
 |[],o,w,c,h,_=>⟨c,h,rfl,fun i=>by rw[if_neg (by simp)],fun _ _=>rfl,rfl⟩
 |v::vs,o,w,c,h,hl=>by
  simp at hl;have hb:b<w.heap.size:=by
   rcases Nat.lt_or_ge b w.heap.size with h'|h'
   ·exact h'
   rw[Array.getElem?_eq_none h'] at h;cases h
  have h1:(w.setCell ⟨b,o,none⟩ v).heap[b]?=some (.cells (c.setIfInBounds o v) ty fr):=by
   simp only[World.setCell,Array.getElem?_modify,h];simp
  obtain⟨c',h2,h3,h4,h5,h6⟩:=zA1 b ty fr vs (o+1) (w.setCell ⟨b,o,none⟩ v) (c.setIfInBounds o v) h1 (by simp;omega);refine⟨c',h2,by simpa using h3,fun i=>?_,fun b' hP=>?_,by rw[World.setCells,h6,World.size_setCell]⟩
  ·rw[h4 i]
   by_cases hi:i=o
   ·subst hi;rw[if_neg (by omega),if_pos (by simp)];simp [Array.getElem?_setIfInBounds];omega
   by_cases nq:o+1≤i∧i<o+1+vs.length
   ·rw[if_pos nq,if_pos (by simp;omega)];have:i - o=i - (o+1)+1:=by omega
    rw[this];simp
   rw[if_neg nq,if_neg (by simp;omega)];simp [Array.getElem?_setIfInBounds];omega
  rw[World.setCells,h5 b' hP];simp only[World.setCell,Array.getElem?_modify];rw[if_neg (fun e=>hP e.symm)]
def zHA {α:Type} (l new:List α) (lo:Nat) (h:lo+new.length≤l.length) (i:Nat) :
  (splice l lo new)[i]?=if lo≤i∧i<lo+new.length then new[i - lo]? else l[i]?:=by
 unfold splice
 by_cases h1:i<lo
 ·rw[if_neg (by omega),List.getElem?_append_left (by simp;omega),List.getElem?_append_left (by simp;omega),List.getElem?_take_of_lt h1]
 by_cases h2:i<lo+new.length
 ·rw[if_pos ⟨by omega,h2⟩,List.getElem?_append_left (by simp;omega),List.getElem?_append_right (by simp;omega)]
  congr 1;simp;omega
 rw[if_neg (by omega),List.getElem?_append_right (by simp;omega),List.getElem?_drop]
 congr 1;simp;omega
def zA0{α:Type}(l new:List α)(lo:Nat)(h:lo+new.length≤l.length):(splice l lo new).length=l.length:=by
 unfold splice;simp;omega
def zEJ(b:Nat):∀(vs:List Value) (o:Nat) (w:World),(w.setCells b o vs).os=w.os∧(w.setCells b o vs).output=w.output
 |[],_,_=>⟨rfl,rfl⟩
 |v::vs,o,w=>by
  have h:=zEJ b vs (o+1) (w.setCell ⟨b,o,none⟩ v);rw[World.setCells];exact⟨h.1,h.2⟩
def zE9 {γ:G} {g:Look} {w w':World} {id b:Nat} {o':Obj} (h:HR γ g w) (hb:γ.β id=some b) (mS:∀i,γ.imm b i=none)
  (hF:cur (upd g [(id,o')]) id=cur g id) (kx:dims (upd g [(id,o')]) id=dims g id) (hw:∀b',b'≠b→w'.heap[b']?=w.heap[b']?) (hQ:w'.heap.size=w.heap.size)
  (ho:OR γ (upd g [(id,o')]) w' id b o') (kj:w'.os=w.os∧w'.output=w.output:=by first|exact⟨rfl,rfl⟩|exact zEJ _ _ _ _):Ext γ g γ (upd g [(id,o')])∧HR γ (upd g [(id,o')]) w'∧Fr γ w γ w':=by
 have hc:∀i,cur (upd g [(id,o')]) i=cur g i:=fun i=>by
  by_cases hi:i=id
  ·subst hi;exact hF
  exact jR hi
 have hd:∀i,dims (upd g [(id,o')]) i=dims g i:=fun i=>by
  by_cases hi:i=id
  ·subst hi;exact kx
  exact zBx hi
 have e:Ext γ g γ (upd g [(id,o')]):=⟨.refl _,fun i b hb hV=>⟨hb,by rw[hc];exact hV⟩,fun i c hV=>⟨c,by rw[hc];exact hV,Nat.le_refl _,fun _=>⟨rfl,rfl,hd i⟩⟩⟩
 refine⟨e,⟨fun i b' hS=>?_,h.inj,fun b' o v hv=>?_⟩,⟨by omega,fun b' _ hn=>hw b' (fun hh=>hn id (by rw[hh];exact hb)),fun i b' hS=>.inr ⟨i,hS⟩,fun _ _ _ hv=>.inl hv,kj⟩⟩
 ·by_cases hi:i=id
  ·subst hi;rw[hb] at hS;cases hS;exact⟨o',by rw[yS,if_pos rfl],ho⟩
  obtain⟨x,hx,hH⟩:=h.obj i b' hS;have mv:b'≠b:=fun hh=>hi (h.inj i id b (hh ▸ hS) hb)
  exact⟨x,by rw[yS,if_neg hi];exact hx,hH.mono e (hw b' mv) rfl (fun _=>rfl)⟩
 have mv:b'≠b:=fun hh=>by rw[hh,mS] at hv;cases hv
 rw[kX (hw b' mv)];exact h.imm b' o v hv
def zLB(γ:G)(g:Look)(w:World)(p:Patch)(r:Result Unit):Prop :=
 ∃w' γ',r=.ok () w'∧Ext γ g γ' (upd g p)∧HR γ' (upd g p) w'∧Fr γ w γ' w'
def zHy{γ:G}{g:Look}{cs:List AV}{vs:List Value}(h:VRs γ g cs vs)(hc:cs.all vZ=true):∀v ∈ vs,v.oneCell'=true:=by
 intro v hv;obtain⟨i,hi⟩:=List.getElem?_of_mem hv;have kk:=zQ hi;obtain⟨x,hx⟩:∃x,cs[i]?=some x:=⟨cs[i]'(by rw[h.1];exact kk),List.getElem?_eq_getElem _⟩;have hr:=h.2 i x v hx hi;have m9:vZ x=true:=List.all_eq_true.1 hc x (List.mem_of_getElem? hx);cases hr with
 |t x v ht=>cases ht<;>first|rfl|(simp [vZ] at m9)
 |_=>first|rfl|(simp [vZ] at m9)
def zFV{w:World}{b o:Nat}{c:Array Value}{ty:TypeId}{fr:Nat×Nat}(h:w.heap[b]?=some (.cells c ty fr))(ho:o<c.size):(w.cell? ⟨b,o,none⟩).isSome=true:=by
 rw[zBU h];simp [ho]
theorem VRs.splice {γ:G} {g:Look} {xs ys:List AV} {c c':Array Value} {vs:List Value} {o:Nat} (h:VRs γ g xs c.toList) (h':VRs γ g ys vs) (hl:o+ys.length≤xs.length)
  (hs:c'.size=c.size) (hc:∀i,c'[i]?=if o≤i∧i<o+vs.length then vs[i - o]? else c[i]?):VRs γ g (splice xs o ys) c'.toList:=by
 refine⟨by rw[zA0 _ _ _ hl];have:=h.1;simp at this ⊢;omega,fun i x v hx hv=>?_⟩;rw[zHA _ _ _ hl] at hx;rw[Array.getElem?_toList,hc i,← h'.1] at hv;split at hx
 ·rename_i hi;rw[if_pos hi] at hv;exact h'.2 _ _ _ hx hv
 rename_i hi;rw[if_neg hi] at hv;exact h.2 _ _ _ hx (by simpa using hv)
def zQk {P:Program} {γ:G} {g:Look} {w:World} {a:AV} {u:Value} {cs:List AV} {vs:List Value} {p:Patch} (h:HR γ g w) (ha:VR γ g a u) (hv:VRs γ g cs vs)
  (nN:cs.all vZ=true) (hx:storeAt g a cs=some p):∃b o,u=.pointer (some ⟨b,o,none⟩)∧zLB γ g w p ((storeCells ⟨b,o,none⟩ vs).run P w):=by
 have nF:=zHy hv nN;unfold storeAt at hx;split at hx
 ·rename_i id off;split at hx
  ·rename_i old hg;split at hx
   ·rename_i hJ;cases hx;cases ha with
    |box _ _ b hb ry =>
     obtain⟨o,ho,hH⟩:=h.obj id b hb;rw[hg] at ho;cases ho;obtain⟨⟨c,ty,fr,k1,k2,k3⟩,k4⟩:=hH;have mz:=k3.1;simp at mz;have mT:=hv.1;refine⟨b,off,rfl,?_⟩;have hD:=run_storeCells_cells (P:=P) b off vs 0 w (fun j hj=>zFV k1 (by omega)) (fun j hj=>zDi k1 k2 (by omega)) nF;obtain⟨c',s1,s2,s3,s4,s5⟩:=zA1 b ty fr vs off w c k1 (by omega);simp only[Nat.add_zero] at hD;have hF:cur (upd g [(id,.box (splice old off cs))]) id=cur g id:=by unfold cur;rw[yS,if_pos rfl,hg]
     have hO:dims (upd g [(id,.box (splice old off cs))]) id=dims g id:=by unfold dims;rw[yS,if_pos rfl,hg]
     have e0:Ext γ g γ (upd g [(id,.box (splice old off cs))]):=by
      refine⟨.refl _,fun i b hb hV=>⟨hb,?_⟩,fun i c hV=>⟨c,?_,Nat.le_refl _,fun _=>⟨rfl,rfl,?_⟩⟩⟩
      all_goals by_cases hi:i=id
      ·subst hi;rw[hF];exact hV
      ·rw[jR hi];exact hV
      ·subst hi;rw[hF];exact hV
      ·rw[jR hi];exact hV
      ·subst hi;exact hO
      exact zBx hi
     obtain⟨e,hh,f⟩:=zE9 (w':=w.setCells b off vs) h hb k4 hF hO s4 s5
      ⟨⟨c',ty,fr,s1,by rw[s2];exact k2,(k3.splice hv (by omega) s2 s3).mono e0⟩,k4⟩
     exact⟨_,γ,hD,e,hh,f⟩
   cases hx
  cases hx
 ·rename_i id ver i off;split at hx
  ·rename_i s hA es hg;split at hx
   ·rename_i hR;split at hx
    ·rename_i e he;split at hx
     ·rename_i hJ;split at hx
      ·rename_i ts ke;cases hx;have hN:=zEZ ke;subst hN;obtain⟨mT,mU⟩:=hv.trees;cases ha with
       |el _ _ _ _ ad ho hh =>
        have nr:cur g id=some ver:=by rw[qW hg,hR]
        obtain⟨b,s',n',hb,hd,rfl⟩:=hh nr;rw[vO hg] at hd;cases hd;obtain⟨o,h9,hH⟩:=h.obj id b hb;rw[hg] at h9;cases h9;obtain⟨⟨c,ty,fr,k1,k2,k3,k4,k5,k6,k7⟩,k8⟩:=hH;rw[yP] at he;have kk:=zQ he;have md:=k5 e (List.mem_of_getElem? he);simp at hJ;have nO:=wA kk (k:=off+ts.length) (s:=s) (by omega);refine⟨b,i * s+off,rfl,?_⟩;have hD:=run_storeCells_cells (P:=P) b (i * s+off) vs 0 w (fun j hj=>zFV k1 (by omega)) (fun j hj=>zDi k1 k2 (by omega)) nF;obtain⟨c',s1,s2,s3,s4,s5⟩:=zA1 b ty fr vs (i * s+off) w c k1 (by omega);simp only[Nat.add_zero] at hD;rw[uZ];have hF:cur (upd g [(id,.arr s hA false (es.set i (splice e off ts)))]) id=cur g id:=by unfold cur;rw[yS,if_pos rfl,hg]
        have hO:dims (upd g [(id,.arr s hA false (es.set i (splice e off ts)))]) id=dims g id:=by unfold dims;rw[yS,if_pos rfl,hg];simp
        obtain⟨e',nP,f⟩:=zE9 (w':=w.setCells b (i * s+off) vs) h hb (k8 rfl) hF hO s4 s5
         ⟨⟨c',ty,fr,s1,by rw[s2];exact k2,by rw[s2];exact k3,by simpa [s2] using k4,fun x hx=>by
           rcases List.mem_or_eq_of_mem_set hx with hx|hx
           ·exact k5 x hx
           rw[hx,zA0 _ _ _ (by omega)];exact md,
          fun k j x t v a1 a2 a3=>by
           rw[s3] at a3;rw[List.getElem?_set] at a1
           by_cases hk:i=k
           ·subst hk;rw[if_pos rfl,if_pos kk] at a1;cases a1;have hj:=zQ a2;rw[zA0 _ _ _ (by omega)] at hj;rw[zHA _ _ _ (by omega)] at a2;split at a2
            ·rename_i nQ;rw[if_pos (by omega)] at a3;have mI:vs[j - off]?=some v:=by rw[← a3];congr 1;omega
             exact⟨mU (j - off) t v a2 mI,nF v (List.mem_of_getElem? mI)⟩
            rename_i nQ;rw[if_neg (by omega)] at a3;exact k6 i j e t v he a2 a3
           rw[if_neg hk] at a1;have mA:=zQ a1;have qh:=k5 x (List.mem_of_getElem? a1);have hj:=zQ a2;have mf:¬ (i * s+off≤k * s+j∧k * s+j<i * s+off+vs.length):=by
            rcases Nat.lt_or_ge i k with mK|mK
            ·have:=wA mK (k:=off+ts.length) (s:=s) (by omega);omega
            have nt:k<i:=by omega
            have:=wA nt (k:=j+1) (s:=s) (by omega);omega
           rw[if_neg mf] at a3;exact k6 k j x t v a1 a2 a3,
          fun hf=>by cases hf⟩,fun _=>k8 rfl⟩
        exact⟨_,γ,hD,e',nP,f⟩
      cases hx
     cases hx
    cases hx
   cases hx
  ·rename_i s hA es hg;split at hx
   ·rename_i hR;split at hx
    ·rename_i e he;split at hx
     ·rename_i hJ;cases hx;have mT:=hv.1;cases ha with
      |el _ _ _ _ ad ho hh =>
       have nr:cur g id=some ver:=by unfold cur;rw[hg];simp [hR]
       obtain⟨b,s',n',hb,hd,rfl⟩:=hh nr;have nk:s=s':=by unfold dims at hd;rw[hg] at hd;simp at hd;exact hd.1
       subst nk;obtain⟨o,h9,hH⟩:=h.obj id b hb;rw[hg] at h9;cases h9;obtain⟨⟨c,ty,fr,k1,k2,k3,k4,k5,k6⟩,k8⟩:=hH;rw[yP] at he;have kk:=zQ he;have md:=k5 e (List.mem_of_getElem? he);have nO:=wA kk (k:=off+cs.length) (s:=s) (by omega);refine⟨b,i * s+off,rfl,?_⟩;have hD:=run_storeCells_cells (P:=P) b (i * s+off) vs 0 w (fun j hj=>zFV k1 (by omega)) (fun j hj=>zDi k1 k2 (by omega)) nF;obtain⟨c',s1,s2,s3,s4,s5⟩:=zA1 b ty fr vs (i * s+off) w c k1 (by omega);simp only[Nat.add_zero] at hD;rw[uZ];have hF:cur (upd g [(id,.marr s hA (es.set i (splice e off cs)))]) id=cur g id:=by unfold cur;rw[yS,if_pos rfl,hg]
       have hO:dims (upd g [(id,.marr s hA (es.set i (splice e off cs)))]) id=dims g id:=by unfold dims;rw[yS,if_pos rfl,hg];simp
       have e0:Ext γ g γ (upd g [(id,.marr s hA (es.set i (splice e off cs)))]):=by
        refine⟨.refl _,fun i b hb hV=>⟨hb,?_⟩,fun i c hV=>⟨c,?_,Nat.le_refl _,fun _=>⟨rfl,rfl,?_⟩⟩⟩
        all_goals by_cases hi:i=id
        ·subst hi;rw[hF];exact hV
        ·rw[jR hi];exact hV
        ·subst hi;rw[hF];exact hV
        ·rw[jR hi];exact hV
        ·subst hi;exact hO
        exact zBx hi
       obtain⟨e',nP,f⟩:=zE9 (w':=w.setCells b (i * s+off) vs) h hb k8 hF hO s4 s5
        ⟨⟨c',ty,fr,s1,by rw[s2];exact k2,by rw[s2];exact k3,by simpa [s2] using k4,fun x hx=>by
          rcases List.mem_or_eq_of_mem_set hx with hx|hx
          ·exact k5 x hx
          rw[hx,zA0 _ _ _ (by omega)];exact md,
         fun k j x t v a1 a2 a3=>by
          refine VR.mono e0 ?_;rw[s3] at a3;rw[List.getElem?_set] at a1
          by_cases hk:i=k
          ·subst hk;rw[if_pos rfl,if_pos kk] at a1;cases a1;have hj:=zQ a2;rw[zA0 _ _ _ (by omega)] at hj;rw[zHA _ _ _ (by omega)] at a2;split at a2
           ·rename_i nQ;rw[if_pos (by omega)] at a3;exact hv.2 (j - off) t v a2 (by rw[← a3];congr 1;omega)
           rename_i nQ;rw[if_neg (by omega)] at a3;exact k6 i j e t v he a2 a3
          rw[if_neg hk] at a1;have mA:=zQ a1;have qh:=k5 x (List.mem_of_getElem? a1);have hj:=zQ a2;have mf:¬ (i * s+off≤k * s+j∧k * s+j<i * s+off+vs.length):=by
           rcases Nat.lt_or_ge i k with mK|mK
           ·have:=wA mK (k:=off+cs.length) (s:=s) (by omega);omega
           have nt:k<i:=by omega
           have:=wA nt (k:=j+1) (s:=s) (by omega);omega
          rw[if_neg mf] at a3;exact k6 k j x t v a1 a2 a3⟩,k8⟩
       exact⟨_,γ,hD,e',nP,f⟩
     cases hx
    cases hx
   cases hx
  cases hx
 cases hx
def zOw {P:Program} {w:World} {t:TypeId} {n:Nat} {a:Addr} {v:Value} (hn:sizeOf? P t=some n) (hs:v.cells.toList.length=n) :
  (storeVar t a v).run P w=(storeCells a v.cells.toList).run P w:=by
 unfold storeVar;have:v.cells.size=n:=by simpa using hs
 simp [vQ hn,this]
def zS5 {P:Program} {γ:G} {g:Look} {w:World} {t:TypeId} {a x v:AV} {ua ux:Value} {p:Patch} (h:HR γ g w) (ha:VR γ g a ua) (hv:VR γ g x ux)
  (hx:kD P g t a x=some (.val v,p)):v=.nov∧zLB γ g w p ((Instr.storeAt t ua ux).run P w):=by
 unfold kD at hx;split at hx
 ·rename_i n hn;dsimp only at hx;split at hx
  ·rename_i cs hN;split at hx
   ·rename_i mB;obtain⟨hl,nN⟩:=mB;split at hx
    ·rename_i p' nD;cases hx;refine⟨rfl,?_⟩;have key:∀ {γ1:G} {q:Patch} {x1:AV},Ext γ g γ1 (upd g q)→HR γ1 (upd g q) w→Fr γ w γ1 w→VR γ1 (upd g q) x1 ux→cellsOf x1=some cs→storeAt (upd g q) a cs=some p' →
       zLB γ g w (q++p') ((Instr.storeAt t ua ux).run P w):=by
      intro γ1 q x1 e1 h1 f1 nR nS kp;have mg:=zB0 nS nR;obtain⟨b,o,rfl,w',γ2,r1,r2,r3,r4⟩:=zQk (P:=P) h1 (ha.mono e1) mg nN kp;have hL:ux.cells.toList.length=n:=by rw[← mg.1];exact hl
      refine⟨w',γ2,?_,?_,?_,f1.trans r4⟩
      ·simp only[Instr.storeAt,Instr.sureAddr,Sem.run_bind,Sem.run_pure,Result.andThen_ok];rw[zOw hn hL];exact r1
      ·rw[jX];exact e1.trans r2
      rw[jX];exact r3
     split at hN
     ·rename_i i1 i2 i3 i4;obtain⟨γ1,e1,h1,f1,_,nR⟩:=zSk h hv;exact key e1 h1 f1 nR hN nD
     rename_i hI;exact key (q:=[]) (.refl _ _) h (.refl _ _) hv hN (by
      cases a<;>first|exact nD|exact absurd rfl (hI _ _ _ _))
    cases hx
   cases hx
  cases hx
 cases hx
def zPy {P:Program} {γ:G} {g:Look} {w:World} {x v:AV} {u:Value} (hv:VR γ g x u) (hx:uT x=some v) :
  v=x∧(match (generalizing:=false) u with
   |.pointer none|.nilIface|.nilFunc=>runtimePanic .nilDeref
   |.func (.method name) first captured =>
    match (first[0]?:Option Value) with
    |some .nilIface=>runtimePanic .nilDeref
    |some (.iface t w)=>do
     if (← nilAhead ((← program).types.size+Made.depth) t w name) != some false then
      unsupported (.noEntry "op/nilCheck.the method's receiver behind this interface value is a nil pointer, or cannot be seen to be none, and the arguments act or may panic (ledger 612)")
     pure (.value (.func (.method name) first captured))
    |_=>pure (.value (.func (.method name) first captured))
   |x=>pure (.value x):Sem Next).run P w=.ok (.value u) w:=by
 unfold uT at hx;split at hx
 all_goals (first|cases hx;done|skip)<;>cases hx<;>refine⟨rfl,?_⟩
 ·cases hv;rfl
 ·cases hv;rfl
 ·cases hv;rfl
 ·cases hv with
  |t _ _ ht=>cases ht;rfl
 cases hv;rfl
def zKX{s:Sem Value}{x:Tree}(h:zLh s=some x):∃v,s=.pure v∧vI v=some x:=by
 unfold zLh at h;split at h
 ·rename_i v;exact⟨v,rfl,h⟩
 cases h
def zNP{I:Imm}{v:Value}{x:Tree}(h:vI v=some x):TR I x v:=by
 unfold vI at h;split at h
 ·cases h;exact .bool _
 ·cases h;exact .int _ _
 cases h
def zYv{I:Imm}{v u:Value}{x:Tree}(h:scal x=some v)(hr:TR I x u):u=v:=by
 unfold scal at h;split at h
 ·cases h;cases hr;rfl
 ·cases h;cases hr;rfl
 cases h
def zWX {P:Program} {γ:G} {g:Look} {w:World} {op:UnOp} {x v:AV} {u:Value} (h:HR γ g w) (hv:VR γ g x u) (hx:unop op x=some v) :
  Good γ g w [] v ((Op.unary op u).run P w):=by
 unfold unop at hx;split at hx
 ·rename_i x';split at hx
  ·rename_i v' hs;have:=zYv hs hv.of_tree;subst this;simp only[Option.map_eq_some_iff] at hx;obtain⟨y,hy,rfl⟩:=hx;obtain⟨r,hr,na⟩:=zKX hy;rw[hr];exact .pure h (.t _ _ (zNP na))
  cases hx
 cases hx
def zVR(s:ByteArray):s.toList=s.data.toList:=by
 have key:∀(n i:Nat) (r:List UInt8),s.size - i=n→ByteArray.toList.loop s i r=r.reverse++s.data.toList.drop i:=by
  intro n
  induction n with
  |zero =>
   intro i r h;unfold ByteArray.toList.loop;rw[if_neg (by omega),List.drop_of_length_le (by rw[Array.length_toList];show s.size≤i;omega)];simp
  |succ n ih =>
   intro i r h;unfold ByteArray.toList.loop;have hi:i<s.size:=by omega
   rw[if_pos hi,ih (i+1) _ (by omega)];have hd:s.data.toList.drop i=s.get! i::s.data.toList.drop (i+1):=by
    rw[List.drop_eq_getElem_cons (by rw[Array.length_toList];exact hi)]
    congr 1
    have:s.get! i=s.data[i]!:=rfl;rw[this];rw[Array.getElem_toList];exact(getElem!_pos s.data i hi).symm
   rw[hd];simp
 have:=key (s.size - 0) 0 [] rfl
 simpa [ByteArray.toList] using this
def mkS(s:List Nat):ByteArray:=⟨(s.map UInt8.ofNat).toArray⟩
def zE0(s:List Nat):(mkS s).toList=s.map UInt8.ofNat:=by rw[zVR];simp [mkS]
def zND{a b:Nat}(ha:a<256)(hb:b<256)(h:UInt8.ofNat a=UInt8.ofNat b):a=b:=by
 have:=congrArg UInt8.toNat h;simp [UInt8.toNat_ofNat'] at this;omega
def yAh{x y:List Nat}(hx:∀b ∈ x,b<256)(hy:∀b ∈ y,b<256)(h:x.map UInt8.ofNat=y.map UInt8.ofNat):x=y:=by
 induction x generalizing y with
 |nil=>cases y with
  |nil=>rfl
  |cons b y=>simp at h
 |cons a x ih=>cases y with
  |nil=>simp at h
  |cons b y =>
   simp only[List.map_cons,List.cons.injEq] at h;rw[zND (hx a (by simp)) (hy b (by simp)) h.1,ih (fun c hc=>hx c (by simp [hc])) (fun c hc=>hy c (by simp [hc])) h.2]
def zMI{x y:List Nat}(hx:∀b ∈ x,b<256)(hy:∀b ∈ y,b<256):((mkS x).toList==(mkS y).toList)=beqL x y:=by
 rw[zE0,zE0,wV]
 by_cases h:x=y
 ·subst h;simp
 have:x.map UInt8.ofNat≠y.map UInt8.ofNat:=fun hh=>h (yAh hx hy hh)
 simp [h,this]
def zOX:∀ {x y:List Nat},(∀b ∈ x,b<256)→(∀b ∈ y,b<256)→Op.bytesLess (x.map UInt8.ofNat) (y.map UInt8.ofNat)=bytesLess x y
 |x,[],_,_=>by cases x<;>simp [Op.bytesLess,bytesLess]
 |[],b::y,_,_=>by simp [Op.bytesLess,bytesLess]
 |a::x,b::y,hx,hy=>by
  have ih:=zOX (x:=x) (y:=y) (fun c hc=>hx c (by simp [hc])) (fun c hc=>hy c (by simp [hc]));have ha:=hx a (by simp);have hb:=hy b (by simp);simp only[List.map_cons,Op.bytesLess,bytesLess,ih];have h1:decide (UInt8.ofNat a<UInt8.ofNat b)=Nat.blt a b:=by
   rw[Bool.eq_iff_iff];simp [UInt8.lt_iff_toNat_lt,UInt8.toNat_ofNat',Nat.mod_eq_of_lt ha,Nat.mod_eq_of_lt hb,Nat.blt_eq]
  have h2:(UInt8.ofNat a==UInt8.ofNat b)=Nat.beq a b:=by
   rw[Bool.eq_iff_iff];simp only[beq_iff_eq,Nat.beq_eq];exact⟨fun h=>zND ha hb h,fun h=>by rw[h]⟩
  rw[h1,h2]
def zRz(x y:List Nat):mkS (x++y)=mkS x++mkS y:=by
 apply ByteArray.ext;simp [mkS,ByteArray.data_append]
def zAb(x:List Nat):(mkS x).size=x.length:=by simp [mkS,ByteArray.size]
theorem TR.str_inv{I:Imm}{s:List Nat}{u:Value}(h:TR I (.str s) u):u=.string (mkS s)∧∀b ∈ s,b<256:=by
 cases h with
 |str _ hb=>exact⟨rfl,hb⟩
theorem TR.mkS{I:Imm}{s:List Nat}(h:∀b ∈ s,b<256):TR I (.str s) (.string (mkS s)):=.str s h
def zUH {P:Program} {γ:G} {g:Look} {w:World} {op:BinOp} {a b:List Nat} {x:Tree} {ua ub:Value} (h:HR γ g w) (ha:TR γ.imm (.str a) ua) (hb:TR γ.imm (.str b) ub) (t:TypeId)
  (hx:zOm op a b=some x):Good γ g w [] (.t x) ((Go.binOp op t ua ub).run P w):=by
 obtain⟨rfl,nT⟩:=ha.str_inv;obtain⟨rfl,hP⟩:=hb.str_inv;have hW:=zMI nT hP;have kc:Op.bytesLess (Ab.mkS a).toList (Ab.mkS b).toList=bytesLess a b:=by rw[zE0,zE0,zOX nT hP]
 have qx:∀c:Bool,Good γ g w [] (.t (.bool c)) (.ok (.bool c) w):=fun c=>.pure h (.t _ _ (.bool c))
 unfold zOm at hx;cases op<;>simp only[reduceCtorEq] at hx
 case add =>
  split at hx
  ·rename_i hl;cases hx;have:¬ ((((Ab.mkS a).size+(Ab.mkS b).size:Nat):Int) > IntKind.i64.max):=by
    rw[zAb,zAb];have:IntKind.i64.max=9223372036854775807:=by decide
    omega
   simp only[Go.binOp,Op.stringOp,if_neg this];rw[← zRz];exact .pure h (.t _ _ (.mkS fun c hc=>by rcases List.mem_append.1 hc with hc|hc;exact nT c hc;exact hP c hc))
  cases hx
 all_goals cases hx<;>simp only[Go.binOp,Op.stringOp,hW,kc]<;>exact qx _
def zKj {P:Program} {γ:G} {g:Look} {w:World} {t:TypeId} {cs:List AV} {vs:List Value} {off:Nat} {x:AV} (hv:VRs γ g cs vs) (hx:part P t cs off=some x) :
  ∃u,(Go.part t vs.toArray off).run P w=.ok u w∧VR γ g x u:=by
 unfold part at hx;split at hx
 ·rename_i ha;split at hx
  ·rename_i n hn;split at hx
   ·rename_i l hl;cases hx;have hc:=zAc hl;refine⟨.agg (vs.toArray.extract off (off+n)),by simp [Go.part,zCV ha,vQ hn],?_⟩;have e:vs.toArray.extract off (off+n)=((vs.drop off).take n).toArray:=by
     apply Array.ext';simp [List.extract_eq_take_drop]
    rw[e];refine .mkAgg ⟨by rw[vM hl];have:=hv.1;simp;omega,fun i c v my kg=>?_⟩;have hi:i<n:=by have:=zQ my;rw[vM hl] at this;exact this
    rw[zDD hl hi] at my;rw[List.getElem?_take_of_lt hi,List.getElem?_drop] at kg;exact hv.2 _ _ _ my kg
   cases hx
  cases hx
 ·rename_i ha;rw[yP] at hx;have hl:=zQ hx;have mT:off<vs.length:=by rw[← hv.1];exact hl
  have qi:vs[off]?=some vs[off]:=List.getElem?_eq_getElem mT;refine⟨vs[off],?_,hv.2 off x _ hx qi⟩;simp [Go.part,zCV ha,qi]
 cases hx
def zRQ{P:Program}{t:TypeId}{cs:List Tree}{off:Nat}{x:Tree}(h:zF5 P t cs off=some x):∃y,part P t (cs.map .t) off=some y∧y=.t x:=by
 unfold zF5 at h;unfold part;have trees_map:∀l:List Tree,trees (l.map .t)=some l:=fun l=>by
  induction l with
  |nil=>rfl
  |cons a l ih=>simp [trees,ih]
 cases ha:agg? P t with
 |none=>simp [ha] at h
 |some b =>
  rw[ha] at h;cases b with
  |true =>
   simp only at h ⊢;split at h
   ·rename_i n hn;split at h
    ·rename_i l hl;cases h;have hc:=zAc hl;have:cut (cs.map AV.t) off n=some (l.map AV.t):=by
      unfold cut;rw[if_pos (by simpa using hc.1),hc.2];simp [List.map_take,List.map_drop]
     rw[this];refine⟨_,rfl,?_⟩;unfold mkAgg;rw[trees_map]
    cases h
   cases h
  |false =>
   simp only at h ⊢;rw[yP] at h ⊢;exact⟨.t x,by simp [h],rfl⟩
def zNG {P:Program} {I:Imm} {w:World} {t:TypeId} {cs:List Tree} {vs:List Value} {off:Nat} {x:Tree} (hl:cs.length=vs.length)
  (hv:∀(i:Nat) c v,cs[i]?=some c→vs[i]?=some v→TR I c v) (hx:zF5 P t cs off=some x) :
  ∃u,(Go.part t vs.toArray off).run P w=.ok u w∧TR I x u:=by
 obtain⟨y,hy,rfl⟩:=zRQ hx;have:=zKj (P:=P) (γ:=⟨fun _=>none,fun _=>0,I⟩) (g:=fun _=>none) (w:=w) (VRs.of_trees hl hv) hy;obtain⟨u,hu,hr⟩:=this;exact⟨u,hu,hr.of_tree⟩
theorem TR.agg_inv {I:Imm} {cs:List Tree} {u:Value} (h:TR I (.agg cs) u) :
  ∃vs:List Value,u=.agg vs.toArray∧cs.length=vs.length∧∀(i:Nat) c v,cs[i]?=some c→vs[i]?=some v→TR I c v:=by
 cases h with
 |agg _ vs hl hh=>exact⟨vs,rfl,hl,hh⟩
def zFK{P:Program}{I:Imm}{w:World}:∀(d:Nat) (D:Nat) (t:TypeId) (x y:Tree) (b:Bool) (u v:Value),equal P d t x y=some b→d≤D→TR I x u→TR I y v →
  (Op.equalIn D t u v).run P w=.ok b w
 |0,_,_,_,_,_,_,_,h,_,_,_=>by simp [equal] at h
 |d+1,D,t,x,y,b,u,v,h,hd,hx,hy=>by
  obtain⟨D',rfl⟩:∃D',D=D'+1:=⟨D - 1,by omega⟩;unfold equal at h;split at h
  ·rename_i p q hu;cases h;cases hx;cases hy;exact run_equalIn_bool' w D' t p q (vD hu)
  ·rename_i k' k p k'' q hu;split at h
   ·rename_i hk;subst hk;cases h;cases hx;cases hy;exact run_equalIn_int w D' t _ _ p q (vD hu)
   cases h
  ·rename_i p q hu;cases h;obtain⟨rfl,hp⟩:=hx.str_inv;obtain⟨rfl,hq⟩:=hy.str_inv;rw[run_equalIn_string w D' t _ _ (vD hu),zMI hp hq]
  ·rename_i fields xs ys hu;split at h
   ·cases h
   rename_i kp;obtain⟨us,rfl,qj,na⟩:=hx.agg_inv;obtain⟨vs,rfl,mT,qk⟩:=hy.agg_inv;have hf:P.fieldsOf t=fields:=by unfold Program.fieldsOf;rw[vD hu]
   rw[run_equalIn_struct w D' t _ _ (by rw[hf];exact vD hu) (by simpa using kp),hf];clear hu hf;generalize fields.toList=fs at h
   induction fs with
   |nil=>simp [equal.eqFields] at h;subst h;rfl
   |cons f fs ih =>
    unfold equal.eqFields at h;unfold Op.eqFields;split at h
    ·rename_i hn;rw[if_neg (by simpa using hn)];exact ih h
    rename_i hn;rw[if_pos (by simpa using hn)];split at h
    ·rename_i a c ha hc;obtain⟨ua,ra,ta⟩:=zNG (P:=P) (w:=w) qj na ha;obtain⟨uc,rc,tc⟩:=zNG (P:=P) (w:=w) mT qk hc;simp only[Sem.run_bind,ra,rc,Result.andThen_ok];split at h
     ·rename_i he;rw[zFK d D' f.type a c true ua uc he (by omega) ta tc]
      simpa using ih h
     ·rename_i he;cases h;rw[zFK d D' f.type a c false ua uc he (by omega) ta tc];simp
     cases h
    cases h
  cases h
def zHf{P:Program}:∀(d D:Nat) (t:TypeId),zCL P d t=false→d≤D→P.eqGuardType D t=false
 |0,_,_,h,_=>by simp [zCL] at h
 |d+1,D,t,h,hd=>by
  obtain⟨D',rfl⟩:∃D',D=D'+1:=⟨D - 1,by omega⟩;unfold zCL at h;unfold Program.eqGuardType;split at h
  ·rename_i ms hu;rw[vD hu];simpa using h
  ·rename_i fs hu;rw[vD hu];simp only[List.any_eq_false] at h;simp only[Array.any_eq_false'];intro f hf;have hh:=h f (by simpa using hf);simp only[Bool.and_eq_true,not_and,Bool.not_eq_true] at hh ⊢;intro hn;exact zHf d D' f.type (hh hn) (by omega)
  ·rename_i n e hu;rw[vD hu];exact zHf d D' e h (by omega)
  ·rename_i dd h1 h2 h3 hu;rw[vD hu];cases dd<;>first|rfl|(exact absurd rfl (h1 _))|(exact absurd rfl (h2 _))|(exact absurd rfl (h3 _ _))
  cases h
def zXy(P:Program):50≤P.depth:=by
 have:Made.depth=100:=rfl;unfold Program.depth;omega
def vP {P:Program} {w:World} {op:BinOp} {t:TypeId} {ox oy:Operand} {a b:Value} (h1:a≠.nilIface) (h2:∀x,a≠.agg x) :
  (eqGuard op t ox oy a b).run P w=.ok () w:=by
 unfold eqGuard;cases op<;>simp only[Bool.not_true,Bool.not_false,Bool.false_eq_true,if_false,if_true,Sem.run_pure]
 all_goals (first|rfl|skip)<;>(cases a<;>first|rfl|exact absurd rfl h1|exact absurd rfl (h2 _))
def zH7 {γ:G} {g:Look} {x:AV} {u:Value} {k:Nat} {b:Bool} (hx:zGD x=some (k,b)) (hv:VR γ g x u) :
  (k=0∧((b=true∧u=.nilFunc)∨(b=false∧∃f a c,u=.func f a c)))∨(k=1∧((b=true∧u=.pointer none)∨(b=false∧∃a,u=.pointer (some a)))) ∨
  (k=2∧((b=true∧u=.slice none 0 0)∨(b=false∧∃a n c,u=.slice (some a) n c)))∨(k=3∧((b=true∧u=.map none)∨(b=false∧∃a,u=.map (some a)))):=by
 unfold zGD at hx;split at hx<;>first|(cases hx;done)|skip
 all_goals cases hx
 ·cases hv with|t _ _ ht=>cases ht;simp
 ·cases hv with|t _ _ ht=>cases ht;simp
 ·cases hv;simp
 ·cases hv with|t _ _ ht=>cases ht;simp
 ·cases hv;simp
 ·cases hv;simp
 ·cases hv;simp
 ·cases hv with
  |t _ _ ht=>cases ht with
   |sl nl clip es a cap s val h0 h1 h2 h3 h4 h5 h6 =>
    cases b with
    |true=>obtain⟨rfl,rfl,rfl⟩:=h0 rfl;simp
    |false=>obtain⟨hI,_⟩:=h1 rfl;cases a with
     |none=>exact absurd rfl hI
     |some a=>simp
 ·cases hv;simp
 ·cases hv;simp
 ·cases hv with|t _ _ ht=>cases ht;simp
 cases hv;simp
def zN6 {P:Program} {γ:G} {g:Look} {w:World} {t:TypeId} {x y:AV} {ux uy:Value} {b:Bool} (hx:VR γ g x ux) (hy:VR γ g y uy) (h:zMa P t x y=some b) :
  (Op.equal t ux uy).run P w=.ok b w∧(∀(op:BinOp) (ox oy:Operand),(eqGuard op t ox oy ux uy).run P w=.ok () w) ∧
   Go.binOp .eql t ux uy=(do pure (.bool (← Op.equal t ux uy)))∧Go.binOp .neq t ux uy=(do pure (.bool (!(← Op.equal t ux uy)))):=by
 unfold zMa at h;split at h
 ·rename_i k a m c n hk ha hc;have mC:=zH7 ha hx;have nG:=zH7 hc hy;have hu:(k=0→∃p q r,P.underlying t=some (.func p q r))∧(k=1→∃e,P.underlying t=some (.pointer e))∧(k=2→∃e,P.underlying t=some (.slice e))∧(k=3→∃e f,P.underlying t=some (.map e f)):=by
   unfold zOn at hk;split at hk<;>first|(cases hk;done)|skip
   all_goals (rename_i hh;cases hk;have:=vD hh;refine⟨?_,?_,?_,?_⟩<;>intro h0<;>first|(cases h0;done)|exact⟨_,this⟩|exact⟨_,_,_,this⟩|exact⟨_,_,this⟩)
  have hm:Nat.beq k a=true∧Nat.beq k c=true:=by
   split at h
   ·rename_i hh;simpa using hh
   ·rename_i hh;simpa using hh
   cases h
  obtain⟨e1,e2⟩:=hm;have e1:=Nat.eq_of_beq_eq_true e1;have e2:=Nat.eq_of_beq_eq_true e2;subst e1;subst e2;have mc:(m=true∧b=n)∨(m=false∧n=true∧b=false):=by
   split at h
   ·cases h;exact .inl ⟨rfl,rfl⟩
   ·cases h;exact .inr ⟨rfl,rfl,rfl⟩
   cases h
  clear h ha hc hk;rcases mC with ⟨rfl,mC⟩|⟨rfl,mC⟩|⟨rfl,mC⟩|⟨rfl,mC⟩
  ·obtain⟨p,q,r,hu⟩:=hu.1 rfl;have kr:(n=true∧uy=.nilFunc)∨(n=false∧∃f a c,uy=.func f a c):=by simpa using nG
   rcases mC with ⟨rfl,rfl⟩|⟨rfl,f,a,c,rfl⟩<;>rcases kr with ⟨rfl,rfl⟩|⟨rfl,f',a',c',rfl⟩<;>simp at mc<;>subst mc <;>
    exact⟨by(show (Op.equalIn (9999+1) t _ _).run P w=_);generalize 9999=d;simp [Op.equalIn,underlying,hu],fun op ox oy=>vP (by simp) (by simp),rfl,rfl⟩
  ·obtain⟨e,hu⟩:=hu.2.1 rfl;have kr:(n=true∧uy=.pointer none)∨(n=false∧∃a,uy=.pointer (some a)):=by simpa using nG
   rcases mC with ⟨rfl,rfl⟩|⟨rfl,a,rfl⟩<;>rcases kr with ⟨rfl,rfl⟩|⟨rfl,a',rfl⟩<;>simp at mc<;>subst mc <;>
    exact⟨by(show (Op.equalIn (9999+1) t _ _).run P w=_);generalize 9999=d;simp [Op.equalIn,underlying,hu],fun op ox oy=>vP (by simp) (by simp),rfl,rfl⟩
  ·obtain⟨e,hu⟩:=hu.2.2.1 rfl;have kr:(n=true∧uy=.slice none 0 0)∨(n=false∧∃a n c,uy=.slice (some a) n c):=by simpa using nG
   rcases mC with ⟨rfl,rfl⟩|⟨rfl,a,l,c,rfl⟩<;>rcases kr with ⟨rfl,rfl⟩|⟨rfl,a',l',c',rfl⟩<;>simp at mc<;>subst mc <;>
    exact⟨by(show (Op.equalIn (9999+1) t _ _).run P w=_);generalize 9999=d;simp [Op.equalIn,underlying,hu],fun op ox oy=>vP (by simp) (by simp),rfl,rfl⟩
  obtain⟨e,f,hu⟩:=hu.2.2.2 rfl;have kr:(n=true∧uy=.map none)∨(n=false∧∃a,uy=.map (some a)):=by simpa using nG
  rcases mC with ⟨rfl,rfl⟩|⟨rfl,a,rfl⟩<;>rcases kr with ⟨rfl,rfl⟩|⟨rfl,a',rfl⟩<;>simp at mc<;>subst mc <;>
   exact⟨by(show (Op.equalIn (9999+1) t _ _).run P w=_);generalize 9999=d;simp [Op.equalIn,underlying,hu],fun op ox oy=>vP (by simp) (by simp),rfl,rfl⟩
 cases h
def zVU {P:Program} {γ:G} {g:Look} {w:World} {op:BinOp} {t:TypeId} {x y v:AV} {ux uy:Value} (ox oy:Operand) (h:HR γ g w) (hx:VR γ g x ux) (hy:VR γ g y uy)
  (hb:binop P op t x y=some v):Good γ g w [] v ((do eqGuard op t ox oy ux uy;Go.binOp op t ux uy:Sem Value).run P w):=by
 unfold binop at hb;split at hb
 ·rename_i k a k' b;have ne:=hx.of_tree;have nU:=hy.of_tree;cases ne;cases nU;simp only[Option.map_eq_some_iff] at hb;obtain⟨z,hz,rfl⟩:=hb;obtain⟨r,hr,na⟩:=zKX hz;rw[Sem.run_bind,vP (by simp) (by simp),Result.andThen_ok,hr];exact .pure h (.t _ _ (zNP na))
 ·rename_i a b;simp only[Option.map_eq_some_iff] at hb;obtain⟨z,hz,rfl⟩:=hb;have ne:=hx.of_tree;have:=ne.str_inv;rw[Sem.run_bind,vP (by rw[this.1];simp) (by rw[this.1];simp),Result.andThen_ok];exact zUH h ne hy.of_tree t hz
 ·rename_i a b;have ne:=hx.of_tree;have nU:=hy.of_tree;cases ne;cases nU;rw[Sem.run_bind,vP (by simp) (by simp),Result.andThen_ok];split at hb
  ·rename_i hu;cases hb;have:(Go.binOp .eql t (.bool a) (.bool b)).run P w=.ok (.bool (a==b)) w:=by
    (show (do pure (.bool (← Op.equalIn (9999+1) t (.bool a) (.bool b))):Sem Value).run P w=_)
    rw[Sem.run_bind,run_equalIn_bool' w 9999 t a b (vD hu)];rfl
   rw[this];exact .pure h (.t _ _ (.bool _))
  ·rename_i hu;cases hb;have:(Go.binOp .neq t (.bool a) (.bool b)).run P w=.ok (.bool !(a==b)) w:=by
    (show (do pure (.bool (!(← Op.equalIn (9999+1) t (.bool a) (.bool b)))):Sem Value).run P w=_)
    rw[Sem.run_bind,run_equalIn_bool' w 9999 t a b (vD hu)];rfl
   rw[this];exact .pure h (.t _ _ (.bool _))
  cases hb
 ·rename_i xs ys;split at hb
  ·cases hb
  rename_i qy;obtain⟨us,rfl,qj,na⟩:=hx.of_tree.agg_inv;obtain⟨vs,rfl,mT,qk⟩:=hy.of_tree.agg_inv;have hg:P.eqGuardType P.depth t=false:=zHf 50 P.depth t (by simpa using qy) (zXy P);rw[Sem.run_bind,run_eqGuard_agg w op t ox oy _ _ hg,Result.andThen_ok];split at hb
  ·simp only[Option.map_eq_some_iff] at hb;obtain⟨b,he,rfl⟩:=hb;rw[run_eql_struct,zFK 100 10000 t _ _ b _ _ he (by omega) hx.of_tree hy.of_tree];exact .pure h (.t _ _ (.bool _))
  ·simp only[Option.map_eq_some_iff] at hb;obtain⟨b,he,rfl⟩:=hb;rw[run_neq_struct,zFK 100 10000 t _ _ b _ _ he (by omega) hx.of_tree hy.of_tree];exact .pure h (.t _ _ (.bool _))
  cases hb
 split at hb
 ·rename_i b hn;cases hb;obtain⟨h1,h2,h3,h4⟩:=zN6 (w:=w) hx hy hn;rw[Sem.run_bind,h2,Result.andThen_ok,h3];simp only[Sem.run_bind,h1,Result.andThen_ok,Sem.run_pure];exact .pure h (.t _ _ (.bool _))
 ·rename_i b hn;cases hb;obtain⟨h1,h2,h3,h4⟩:=zN6 (w:=w) hx hy hn;rw[Sem.run_bind,h2,Result.andThen_ok,h4];simp only[Sem.run_bind,h1,Result.andThen_ok,Sem.run_pure];exact .pure h (.t _ _ (.bool _))
 cases hb
def zLE {γ:G} {g:Look} {x v:AV} {u:Value} {n:Nat} (hv:VR γ g x u) (hx:yC n x=some v) :
  ∃a,u=.pointer (some a)∧VR γ g v (.pointer (some (a.add n))):=by
 unfold yC at hx;split at hx
 ·cases hx;cases hv with
  |box _ _ b hb hc=>exact⟨_,rfl,by rw[vR];exact .box _ _ b hb hc⟩
 ·cases hx;cases hv with
  |el _ _ _ _ a ho hh =>
   refine⟨_,rfl,.el _ _ _ _ _ ho fun hc=>?_⟩;obtain⟨b,s,m,h1,h2,rfl⟩:=hh hc;exact⟨b,s,m,h1,h2,by rw[vR,Nat.add_assoc]⟩
 ·split at hx
  ·rename_i cs hn;cases hx;cases hv with
   |rp _ b o val h1 h2 =>
    refine⟨_,rfl,?_⟩;rw[vR];refine .rp (cs.drop n) b (o+n) (fun j=>val (n+j)) (fun j c hc=>?_) (fun j c hc=>?_)
    ·rw[List.getElem?_drop] at hc;rw[Nat.add_assoc];exact h1 _ _ hc
    rw[List.getElem?_drop] at hc;exact h2 _ _ hc
  cases hx
 cases hx
def zAY{o:Option AV}{v:AV}{p:Patch}(h:retO o=some (.val v,p)):o=some v∧p=[]:=by
 unfold retO at h;split at h
 ·cases h;exact⟨rfl,rfl⟩
 cases h
def zKT{o:Option AV}{v:AV}{p:Patch}:retO o≠some (.pan v,p):=by
 unfold retO;split<;>simp
def zOg {P:Program} {γ:G} {g:Look} {w:World} {s:TypeId} {x v:AV} {u:Value} {f:Nat} {p:Patch} (h:HR γ g w) (hv:VR γ g x u)
  (hx:zS P s x f=some (.val v,p)):Good γ g w p v ((Instr.fieldAt s u f).run P w):=by
 unfold zS at hx;split at hx
 ·rename_i fields hu;split at hx
  ·rename_i fd nu;split at hx
   ·rename_i n hn
    replace hx:=zAY hx
    obtain⟨hx,rfl⟩:=hx;obtain⟨a,rfl,hr⟩:=zLE hv hx;rw[yP] at nu;have mV:fields[f]?=some fd:=by simpa using nu
    simp only[Instr.fieldAt,Sem.run_bind,yQ hu,Result.andThen_ok,mV,Instr.sureAddr,Sem.run_pure,fieldPlace,vQ hn];simp only[if_false,Sem.run_pure,Result.andThen_ok,show ¬ (n+1=0) from by omega];exact .pure h hr
   cases hx
  cases hx
 cases hx
def zUg {P:Program} {γ:G} {g:Look} {w:World} {s:TypeId} {x v:AV} {u:Value} {f:Nat} {p:Patch} (h:HR γ g w) (hv:VR γ g x u)
  (hx:yG P s x f=some (.val v,p)):Good γ g w p v ((Instr.field s u f).run P w):=by
 unfold yG at hx;split at hx
 ·rename_i fields hu;split at hx
  ·rename_i fd nu;split at hx
   ·rename_i cs hN
    replace hx:=zAY hx
    obtain⟨hx,rfl⟩:=hx;obtain⟨vs,rfl,mb⟩:=zJW hN hv;obtain⟨r,hr,nV⟩:=zKj (P:=P) (w:=w) mb hx;rw[yP] at nu;have mV:fields[f]?=some fd:=by simpa using nu
    simp only[Instr.field,Sem.run_bind,yQ hu,Result.andThen_ok,mV,asAgg,Sem.run_pure,hr];exact .pure h nV
   cases hx
  cases hx
 cases hx
def zOS{α:Type}{l:List α}{i:Int}{x:α}(h:idx l i=some x):∃n:Nat,i=n∧l[n]?=some x:=by
 unfold idx at h;split at h
 ·rename_i n;exact⟨n,rfl,by rw[← yP];exact h⟩
 cases h
def zOf {P:Program} {γ:G} {g:Look} {w:World} {t:TypeId} {x i v:AV} {u ui:Value} {p:Patch} (h:HR γ g w) (hv:VR γ g x u) (hi:VR γ g i ui)
  (hx:wG P g t x i=some (.val v,p)):Good γ g w p v ((Instr.indexAt t u ui).run P w):=by
 unfold wG at hx;split at hx
 ·rename_i k n
  replace hx:=zAY hx
  obtain⟨hx,rfl⟩:=hx;have nW:=hi.of_tree;cases nW;have key:∀(base:Option Addr) (len:Nat) (elem:TypeId) (s:Nat) (a:Addr),und P t=some (.slice elem)→sizeOf? P elem=some s→(∃cap,u=.slice (some a) len cap) →
    0≤n→n<len→VR γ g v (.pointer (some (a.add (n.toNat * s))))→Good γ g w [] v ((Instr.indexAt t u (.int k n)).run P w):=by
   intro base len elem s a hu hs nv h0 hl hr;obtain⟨cap,rfl⟩:=nv;simp only[Instr.indexAt,asIntOf,Sem.run_bind,Sem.run_pure,Result.andThen_ok,yQ hu,Bool.and_false];rw[if_pos ⟨h0,hl⟩];simp only[Sem.run_bind,vQ hs,Result.andThen_ok,Sem.run_pure];exact .pure h hr
  unfold indexAddr at hx;split at hx
  ·rename_i elem nl clip es hu;split at hx
   ·rename_i s e hs he;split at hx
    ·rename_i md;cases hx;obtain⟨m,rfl,hm⟩:=zOS he;have mU:=hv.of_tree;cases mU with
     |sl _ _ _ a cap s' val h0 h1 h2 h3 h4 h5 h6 =>
      have hI:es≠[]:=fun hh=>by rw[hh] at hm;simp at hm
      have mW:nl=false:=by
       cases nl with
       |false=>rfl
       |true=>exact absurd (h0 rfl).2.1 hI
      obtain⟨_,b,o,ha,hc⟩:=h1 mW;have ha:=ha hI;subst ha;have qz:s'=s:=by rw[← h2 e (List.mem_of_getElem? hm)];exact md
      subst qz;refine key none es.length elem s' ⟨b,o,none⟩ hu hs ⟨_,rfl⟩ (by omega) (by have:=zQ hm;omega) ?_;rw[vR];simp only[Int.toNat_natCast];exact .rp e b (o+m * s') (val m) (fun j c nX=>hc m j e c hm nX) (fun j c nX=>h3 m j e c hm nX)
    cases hx
   cases hx
  ·rename_i elem id ver hu;have hM:∀(s0 hA len:Nat),cur g id=some hA→dims g id=some (s0,len)→∀s,sizeOf? P elem=some s→(if ver=hA∧s0=s∧0≤n∧n<len then some (AV.el id ver n.toNat 0) else none)=some v →
     Good γ g w [] v ((Instr.indexAt t u (.int k n)).run P w):=by
    intro s0 hA len nr ql s hs hx;split at hx
    ·rename_i hh;obtain⟨rfl,rfl,h0,hl⟩:=hh;cases hx;cases hv with
     |hs _ _ a m cap ho hh =>
      obtain⟨b,s',hb,hd,rfl,hJ,hQ⟩:=hh nr;rw[ql] at hd;cases hd;refine key none len elem s0 ⟨b,0,none⟩ hu hs ⟨_,rfl⟩ h0 hl ?_;rw[vR];exact .el id ver n.toNat 0 _ ho fun _=>⟨b,s0,len,hb,ql,by simp⟩
    cases hx
   split at hx
   ·rename_i s0 hA frz es s hg hs;exact hM s0 hA es.length (qW hg) (vO hg) s hs hx
   ·rename_i s0 hA es s hg hs;exact hM s0 hA es.length (by unfold cur;rw[hg]) (by unfold dims;rw[hg]) s hs hx
   cases hx
  ·rename_i elem id ver lo len hu;split at hx
   ·rename_i s0 hA frz es s hg hs;split at hx
    ·rename_i hh;obtain⟨rfl,rfl,h0,hl,hJ⟩:=hh;cases hx;cases hv with
     |hsub _ _ _ _ a cap ho hh =>
      obtain⟨b,s',n',hb,hd,hc,k0,ha⟩:=hh (qW hg);rw[vO hg] at hd;cases hd;have ha:=ha (by omega);subst ha;refine key none len elem s0 ⟨b,lo * s0,none⟩ hu hs ⟨_,rfl⟩ h0 hl ?_;rw[vR];exact .el id ver (lo+n.toNat) 0 _ ho fun _=>⟨b,s0,_,hb,vO hg,by rw[Nat.add_mul];simp⟩
    cases hx
   cases hx
  ·rename_i m elem x' hu;split at hx
   ·rename_i s hs;split at hx
    ·rename_i hh;obtain⟨a,rfl,hr⟩:=zLE hv hx;simp only[Instr.indexAt,asIntOf,Sem.run_bind,Sem.run_pure,Result.andThen_ok,yQ hu,Instr.sureAddr];rw[if_pos hh];simp only[Sem.run_bind,vQ hs,Result.andThen_ok,Sem.run_pure];exact .pure h hr
    cases hx
   cases hx
  cases hx
 cases hx
def zTa {P:Program} {γ:G} {g:Look} {w:World} {t:TypeId} {x i v:AV} {u ui:Value} {p:Patch} (h:HR γ g w) (hv:VR γ g x u) (hi:VR γ g i ui)
  (hx:jH P t x i=some (.val v,p)):Good γ g w p v ((Instr.index t u ui).run P w):=by
 unfold jH at hx;split at hx
 ·rename_i k n
  replace hx:=zAY hx
  obtain⟨hx,rfl⟩:=hx;have nW:=hi.of_tree;cases nW;unfold index at hx;split at hx
  ·rename_i s hu;split at hx
   ·rename_i b hb;cases hx;obtain⟨m,rfl,hm⟩:=zOS hb;obtain⟨rfl,nY⟩:=hv.of_tree.str_inv;have nZ:=zQ hm;have hU:(mkS s)[m]?=some (UInt8.ofNat b):=by
     have:m<(mkS s).size:=by rw[zAb];exact nZ
     rw[getElem?_pos (mkS s) m this];have e:s[m]=b:=by rw[List.getElem?_eq_getElem nZ] at hm;exact Option.some.inj hm
     have:(mkS s)[m]=(s.map UInt8.ofNat)[m]'(by simpa using nZ):=rfl;rw[this,List.getElem_map,e]
    have q0:b<256:=nY b (List.mem_of_getElem? hm);simp only[Instr.index,asIntOf,Sem.run_bind,Sem.run_pure,Result.andThen_ok,yQ hu];rw[if_pos (by omega)];simp only[Int.toNat_natCast,hU,Sem.run_pure];have:(UInt8.ofNat b).toNat=b:=by simp [UInt8.toNat_ofNat',Nat.mod_eq_of_lt q0]
    rw[this];exact .pure h (.t _ _ (.int _ _))
   cases hx
  ·rename_i m elem x' hu;split at hx
   ·rename_i s hs;split at hx
    ·rename_i cs hN;split at hx
     ·rename_i hh;obtain⟨vs,rfl,mb⟩:=zJW hN hv;obtain⟨r,hr,nV⟩:=zKj (P:=P) (w:=w) mb hx;simp only[Instr.index,asIntOf,Sem.run_bind,Sem.run_pure,Result.andThen_ok,yQ hu];rw[if_pos hh];simp only[Sem.run_bind,vQ hs,Result.andThen_ok,hr];exact .pure h nV
     cases hx
    cases hx
   cases hx
  cases hx
 cases hx
def zQi {P:Program} {γ:G} {g:Look} {w:World} {x v:AV} {u:Value} {i:Nat} {p:Patch} (h:HR γ g w) (hv:VR γ g x u)
  (hx:uC x i=some (.val v,p)):Good γ g w p v ((Instr.extract u i).run P w):=by
 unfold uC at hx;split at hx
 ·rename_i vs
  replace hx:=zAY hx
  obtain⟨hx,rfl⟩:=hx;rw[yP] at hx;cases hv with
  |tup _ us hl hh =>
   have kk:=zQ hx;have hu:us[i]?=some (us[i]'(by omega)):=List.getElem?_eq_getElem (by omega);have nH:us.toArray[i]?=some (us[i]'(by omega)):=by simp
   simp only[Instr.extract,nH,Sem.run_pure];exact .pure h (hh i v _ hx hu)
 cases hx
def zIy(off:Nat):∀(l:List Value) (k:Nat) (cells:Array Value),off+k+l.length≤cells.size →
  ((l.zipIdx k).foldl (fun cs (c,j)=>cs.setIfInBounds (off+j) c) cells).size=cells.size ∧
   ∀i,((l.zipIdx k).foldl (fun cs (c,j)=>cs.setIfInBounds (off+j) c) cells)[i]?=if off+k≤i∧i<off+k+l.length then l[i - (off+k)]? else cells[i]?
 |[],k,cells,_=>⟨rfl,fun i=>by rw[if_neg (by simp)];rfl⟩
 |v::l,k,cells,h=>by
  simp only[List.zipIdx_cons,List.foldl_cons];simp at h;obtain⟨h1,h2⟩:=zIy off l (k+1) (cells.setIfInBounds (off+k) v) (by simp;omega);refine⟨by rw[h1];simp,fun i=>?_⟩;rw[h2 i]
  by_cases hi:i=off+k
  ·subst hi;rw[if_neg (by omega),if_pos (by simp)];simp [Array.getElem?_setIfInBounds];omega
  by_cases nq:off+(k+1)≤i∧i<off+(k+1)+l.length
  ·rw[if_pos nq,if_pos (by simp;omega)];have:i - (off+k)=i - (off+(k+1))+1:=by omega
   rw[this];simp
  rw[if_neg nq,if_neg (by simp;omega)];rw[Array.getElem?_setIfInBounds,if_neg (by omega)]
def VPs(γ:G)(g:Look):List (Nat×AV)→List (Nat×Value)→Prop
 |[],[]=>True
 |(i,x)::xs,(j,v)::vs=>i=j∧VR γ g x v∧VPs γ g xs vs
 |_,_=>False
theorem VPs.mono{γ γ':G}{g g':Look}(e:Ext γ g γ' g'):∀ {xs:List (Nat×AV)} {vs:List (Nat×Value)},VPs γ g xs vs→VPs γ' g' xs vs
 |[],[],_=>trivial
 |(_,_)::_,(_,_)::_,h=>⟨h.1,h.2.1.mono e,VPs.mono e h.2.2⟩
 |[],(_,_)::_,h=>h.elim
 |(_,_)::_,[],h=>h.elim
def zIs{γ:G}{g:Look}{T:Env}{a:Act}(h:ER γ g T a):∀(l:List (Nat×Operand)),VPs γ g (kI T l) (l.map fun(i,x)=>(i,a.eval x))
 |[]=>trivial
 |(_,x)::l=>⟨rfl,yB h x,zIs h l⟩
def zFs{γ:G}{g:Look}{T:Env}{a:Act}(h:ER γ g T a):∀(l:List Operand),VRs γ g (opds T l) (l.map a.eval)
 |[]=>.nil
 |x::l=>.cons (yB h x) (zFs h l)
def zKB {P:Program} {γ:G} {g:Look} {places:List (Nat×Nat)} {pl:Nat→Option (Nat×Nat)} (nI:∀i p,places[i]?=some p→pl i=some p) :
  ∀ {parts:List (Nat×AV)} {ps:List (Nat×Value)} {cells r:List AV} {zs:Array Value},yN P places cells parts=some r→VPs γ g parts ps→VRs γ g cells zs.toList →
   ∃zs',Instr.fill pl zs ps=some zs'∧VRs γ g r zs'.toList
 |[],[],cells,r,zs,h,_,hz=>by simp [yN] at h;subst h;exact⟨zs,rfl,hz⟩
 |(i,x)::parts,(j,v)::ps,cells,r,zs,h,hp,hz=>by
  obtain⟨rfl,hv,hp⟩:=hp;unfold yN at h;split at h
  ·cases h
  rename_i off size qm;split at h
  ·rename_i cs hN;split at h
   ·rename_i hh;obtain⟨hl,hJ⟩:=hh;have nf:=zB0 hN hv;have mz:=nf.1;have mL:=hz.1;simp at mz mL;rw[yP] at qm;have n0:=nI i _ qm;have nw:off+0+v.cells.toList.length≤zs.size:=by simp;omega
    obtain⟨f1,f2⟩:=zIy off v.cells.toList 0 zs nw;have mh:v.cells.zipIdx.foldl (fun cs (c,j)=>cs.setIfInBounds (off+j) c) zs=(v.cells.toList.zipIdx 0).foldl (fun cs (c,j)=>cs.setIfInBounds (off+j) c) zs:=by
     rw[← Array.foldl_toList,Array.toList_zipIdx]
    have q1:VRs γ g (splice cells off cs) ((v.cells.toList.zipIdx 0).foldl (fun cs (c,j)=>cs.setIfInBounds (off+j) c) zs).toList :=
     hz.splice nf (by omega) f1 (fun i=>by simpa using f2 i)
    obtain⟨zs',g1,g2⟩:=zKB nI h hp q1;refine⟨zs',?_,g2⟩;unfold Instr.fill;simp only[n0];rw[if_neg (by simp;omega),mh];exact g1
   cases h
  cases h
 |[],(_,_)::_,_,_,_,_,hp,_=>hp.elim
 |(_,_)::_,[],_,_,_,_,hp,_=>hp.elim
def zMv{P:Program}{w:World}:∀ {fields:List Field} {l:List (Nat×Nat)},zFn P fields=some l →
  (fields.mapM (fun f=>do pure (f.offset,← sizeOf f.type):Field→Sem (Nat×Nat))).run P w=.ok l w
 |[],l,h=>by simp [zFn] at h;subst h;simp
 |f::fs,l,h=>by
  unfold zFn at h;split at h
  ·cases h
  rename_i n hn;split at h
  ·cases h
  rename_i l' mw;cases h;have ih:=zMv (w:=w) mw;simp only[List.mapM_cons,Sem.run_bind,vQ hn,Result.andThen_ok,Sem.run_pure,ih]
def zTQ {P:Program} {γ:G} {g:Look} {w:World} {t:TypeId} {parts:List (Nat×AV)} {ps:Array (Nat×Value)} {v:AV} (h:HR γ g w) (hp:VPs γ g parts ps.toList)
  (hx:build P t parts=some v):Good γ g w [] v ((Instr.build t ps).run P w):=by
 unfold build at hx;split at hx
 ·cases hx
 rename_i zero hz;obtain⟨i,z,hi,ng,mM⟩:=zFz (γ:=γ) (g:=g) hz;split at hx
 ·rename_i fields hu;split at hx
  ·rename_i places nI;simp only[Option.map_eq_some_iff] at hx;obtain⟨r,hr,rfl⟩:=hx;have hm:=zMv (w:=w) nI;obtain⟨zs',f1,f2⟩:=zKB (pl:=(places.toArray[·]?)) (fun i p hh=>by simpa using hh) hr hp mM;have q2:(fields.mapM (fun f=>do pure (f.offset,← sizeOf f.type):Field→Sem (Nat×Nat))).run P w=.ok places.toArray w:=by
    rw[Array.mapM_eq_mapM_toList,Sem.run_map,hm];rfl
   simp only[Instr.build,Sem.run_bind,zFo hi ng,Result.andThen_ok,yQ hu,q2,f1,Sem.run_pure];have:=VR.mkAgg f2;exact .pure h (by simpa using this)
  cases hx
 ·rename_i n elem hu;split at hx
  ·rename_i size hs;simp only[Option.map_eq_some_iff] at hx;obtain⟨r,hr,rfl⟩:=hx;obtain⟨zs',f1,f2⟩:=zKB (pl:=fun i=>some (i * size,size)) (fun i p hh=>by
    rw[List.getElem?_map] at hh;cases hi:(List.range n)[i]? with
    |none=>rw[hi] at hh;cases hh
    |some k =>
     rw[hi] at hh;cases hh;rw[List.getElem?_range (by have:=zQ hi;simpa using this)] at hi;cases hi;rfl) hr hp mM
   simp only[Instr.build,Sem.run_bind,zFo hi ng,Result.andThen_ok,yQ hu,vQ hs,f1,Sem.run_pure];have:=VR.mkAgg f2;exact .pure h (by simpa using this)
  cases hx
 cases hx
structure Els (γ:G) (g:Look) (s:Nat) (es:List (List AV)) (c:Array Value):Prop where
 size:c.size=es.length * s
 len:∀e ∈ es,e.length=s
 val:∀(i j:Nat) e t v,es[i]?=some e→e[j]?=some t→c[i * s+j]?=some v→VR γ g t v∧v.oneCell'=true
def zJ4:∀ {es:List (List AV)} {ts:List (List Tree)},qJ es=some ts→es=ts.map (·.map .t)
 |[],ts,h=>by simp [qJ] at h;subst h;rfl
 |e::es,ts,h=>by
  unfold qJ at h;split at h
  ·cases h
  rename_i x hx;split at h
  ·cases h
  rename_i xs ky;cases h;rw[zEZ hx,zJ4 ky];rfl
def zRs {γ:G} {g:Look} {w w':World} {nid s cap:Nat} {es:List (List AV)} {c:Array Value} {ty:TypeId} (hn:γ.β nid=none) (hg:g nid=none) (h:HR γ g w)
  (hw:w'.heap=w.heap.push (.cells c ty)) (hJ:es.length≤cap) (hQ:c.size=cap * s) (hl:∀e ∈ es,e.length=s)
  (hc:∀(i j:Nat) e t v,es[i]?=some e→e[j]?=some t→c[i * s+j]?=some v→VR γ g t v∧v.oneCell'=true) (kj:w'.os=w.os∧w'.output=w.output:=by exact⟨rfl,rfl⟩) :
  Good γ g w [(nid,zAf s es)] (.hs nid 0) (.ok (.slice (some ⟨w.heap.size,0,none⟩) es.length cap) w'):=by
 unfold zAf;split
 ·rename_i ts ke;have:=zJ4 ke;subst this;have hL:(ts.map (·.map AV.t)).length=ts.length:=by simp
  rw[hL] at hJ ⊢;refine zMD hn hg h hw (zA7 _) (fun e he=>?_) hJ hQ (fun i j e t v he ht hv=>?_) kj
  ·have:=hl (e.map .t) (List.mem_map.2 ⟨e,he,rfl⟩)
   simpa using this
  have:=hc i j (e.map .t) (.t t) v (by simp [he]) (by simp [ht]) hv;exact⟨this.1.of_tree,this.2⟩
 exact zWC hn hg h hw hl hJ hQ (fun i j e t v a1 a2 a3=>(hc i j e t v a1 a2 a3).1) kj
def zJS {P:Program} {γ:G} {g:Look} {t:TypeId} {cs:List AV} (h:zCC P t=some cs) :
  ∃i z,P.info? t=some i∧i.zero=some z∧VRs γ g cs z.cells.toList∧sizeOf? P t=some cs.length∧0<cs.length∧cs.all vZ=true:=by
 unfold zCC at h;split at h
 ·rename_i z n hz hn;split at h
  ·rename_i hh;cases h;obtain⟨i,zz,h1,h2,h3⟩:=zFz (γ:=γ) (g:=g) hz;exact⟨i,zz,h1,h2,h3,by rw[hn,hh.1],by omega,hh.2.2⟩
  cases h
 cases h
def zPT {γ:G} {g:Look} {zero:List AV} {zc:Array Value} (n m:Nat) (hz:VRs γ g zero zc.toList) (h1:zero.all vZ=true) (q3:n≤m) :
  ∀(i j:Nat) e t v,(List.replicate n zero)[i]?=some e→e[j]?=some t→((Array.range (m * zero.length)).map (zc[· % zc.size]!))[i * zero.length+j]?=some v→VR γ g t v∧v.oneCell'=true:=by
 intro i j e t v he ht hv;have hi:=zQ he;simp at hi;rw[List.getElem?_replicate,if_pos hi] at he;cases he;have hj:=zQ ht;have mL:=hz.1;simp at mL;have kc:=wA (Nat.lt_of_lt_of_le hi q3) (k:=j+1) (s:=zero.length) (by omega);rw[Array.getElem?_map,Array.getElem?_range,if_pos (by omega)] at hv;simp only[Option.map_some,Option.some.injEq] at hv;have n1:(i * zero.length+j) % zc.size=j:=by
  rw[← mL,Nat.mul_comm,Nat.mul_add_mod,Nat.mod_eq_of_lt hj]
 rw[n1,getElem!_pos zc j (by omega)] at hv;have qn:zc.toList[j]?=some v:=by rw[Array.getElem?_toList,Array.getElem?_eq_getElem (by omega),hv]
 exact⟨hz.2 j t v ht qn,zHy hz h1 v (List.mem_of_getElem? qn)⟩
def zH1{γ:G}{g:Look}{zero:List AV}:∀ {parts:List (Nat×AV)} {ps:List (Nat×Value)} {es r:List (List AV)} {c:Array Value},wI.go zero es parts=some r→VPs γ g parts ps →
  Els γ g zero.length es c→∃c',Instr.fill (fun i=>some (i * zero.length,zero.length)) c ps=some c'∧Els γ g zero.length r c'∧r.length=es.length
 |[],[],es,r,c,h,_,he=>by simp [wI.go] at h;subst h;exact⟨c,rfl,he,rfl⟩
 |(i,x)::parts,(j,v)::ps,es,r,c,h,hp,he=>by
  obtain⟨rfl,hv,hp⟩:=hp;unfold wI.go at h;split at h
  ·rename_i cs hN;split at h
   ·rename_i hh;obtain⟨hi,hl,q4⟩:=hh;have nf:=zB0 hN hv;have mz:=nf.1;simp at mz;have hJ:=wA hi (k:=zero.length) (s:=zero.length) (Nat.le_refl _);have hQ:=he.size;obtain⟨f1,f2⟩:=zIy (i * zero.length) v.cells.toList 0 c (by simp;omega);have mh:v.cells.zipIdx.foldl (fun cs (c,j)=>cs.setIfInBounds (i * zero.length+j) c) c=(v.cells.toList.zipIdx 0).foldl (fun cs (c,j)=>cs.setIfInBounds (i * zero.length+j) c) c:=by
     rw[← Array.foldl_toList,Array.toList_zipIdx]
    have n2:Els γ g zero.length (setN es i cs) ((v.cells.toList.zipIdx 0).foldl (fun cs (c,j)=>cs.setIfInBounds (i * zero.length+j) c) c):=by
     rw[uZ];refine⟨by rw[f1,hQ];simp,fun e hh=>?_,fun k j e t u a1 a2 a3=>?_⟩
     ·rcases List.mem_or_eq_of_mem_set hh with hh|hh
      ·exact he.len e hh
      rw[hh];exact hl
     rw[f2] at a3;rw[List.getElem?_set] at a1
     by_cases hk:i=k
     ·subst hk;rw[if_pos rfl,if_pos hi] at a1;cases a1;have hj:=zQ a2;rw[if_pos (by simp;omega)] at a3;have nH:v.cells.toList[j]?=some u:=by rw[← a3];congr 1;omega
      exact⟨nf.2 j t u a2 nH,zHy nf q4 u (List.mem_of_getElem? nH)⟩
     rw[if_neg hk] at a1;have mA:=zQ a1;have md:=he.len e (List.mem_of_getElem? a1);have hj:=zQ a2;have mf:¬ (i * zero.length+0≤k * zero.length+j∧k * zero.length+j<i * zero.length+0+v.cells.toList.length):=by
      simp only[Nat.add_zero,Array.length_toList];rcases Nat.lt_or_ge i k with mK|mK
      ·have:=wA mK (k:=zero.length) (s:=zero.length) (Nat.le_refl _);omega
      have nt:k<i:=by omega
      have:=wA nt (k:=j+1) (s:=zero.length) (by omega);omega
     rw[if_neg mf] at a3;exact he.val k j e t u a1 a2 a3
    obtain⟨c',g1,g2,g3⟩:=zH1 h hp n2;refine⟨c',?_,g2,by rw[g3,uZ];simp⟩;unfold Instr.fill;simp only;rw[if_neg (by simp;omega),mh];exact g1
   cases h
  cases h
 |[],(_,_)::_,_,_,_,_,hp,_=>hp.elim
 |(_,_)::_,[],_,_,_,_,hp,_=>hp.elim
theorem qY.append{g:Look}{p q:Patch}(h:qY g p)(h':qY g q):qY g (p++q):=fun id o ho=>by
 rcases List.mem_append.1 ho with ho|ho
 ·exact h id o ho
 exact h' id o ho
def zCt(g:Look):∀(l:List (Nat×AV)),qY g (xA g l).2
 |[]=>fun _ _ h=>by cases h
 |(i,v)::l=>by
  simp only[xA];exact(vW g _).append (zCt g l)
def zOe {γ:G} {g:Look} {w:World} {xs:List (Nat×AV)} {vs:List (Nat×Value)} (h:HR γ g w) (hv:VPs γ g xs vs) :
  ∃ γ',Ext γ g γ' (upd g (xA g xs).2)∧HR γ' (upd g (xA g xs).2) w∧Fr γ w γ' w∧γ'.β=γ.β∧VPs γ' (upd g (xA g xs).2) (xA g xs).1 vs:=by
 obtain⟨γ',e,h',f,hb⟩:=zDk h (zCt g xs);refine⟨γ',e,h',f,hb,?_⟩;have key:∀(ys:List (Nat×AV)) (us:List (Nat×Value)),(∀x ∈ (xA g ys).2,x ∈ (xA g xs).2)→VPs γ g ys us→VPs γ' (upd g (xA g xs).2) (xA g ys).1 us:=by
  intro ys
  induction ys with
  |nil=>intro us _ hu;cases us with
   |nil=>trivial
   |cons u us=>exact hu.elim
  |cons y ys ih =>
   obtain⟨i,y⟩:=y;intro us hs hu;cases us with
   |nil=>exact hu.elim
   |cons u us =>
    obtain⟨j,u⟩:=u;obtain⟨rfl,q5,hu⟩:=hu;simp only[xA] at hs ⊢;refine⟨rfl,zGU h' (fun id hid s ver frz es hg=>?_) (q5.mono e),ih us (fun x hx=>hs x (List.mem_append_right _ hx)) hu⟩;exact(zCt g xs).upd_eq hg ⟨_,hs _ (List.mem_append_left _ (zDq hg hid))⟩
 exact key xs vs (fun _ hx=>hx) hv
def zEf{g:Look}{id:Nat}:∀ {p:Patch},(∀o,(id,o) ∉ p)→upd g p id=g id
 |[],_=>rfl
 |(i,o)::p,h=>by
  have hi:id≠i:=fun e=>h o (by rw[e];simp)
  simp only[upd];rw[zEf (p:=p) (fun o' h9=>h o' (List.mem_cons_of_mem _ h9))];have:Nat.beq id i=false:=by
   cases hb:Nat.beq id i with
   |true=>exact absurd (Nat.eq_of_beq_eq_true hb) hi
   |false=>rfl
  simp [this]
theorem qY.upd_none{g:Look}{p:Patch}(h:qY g p){id:Nat}(hg:g id=none):upd g p id=none:=by
 rw[zEf (fun o ho=>by obtain⟨s,ver,frz,es,h1,_⟩:=h id o ho;rw[hg] at h1;cases h1),hg]
theorem Good.after{γ γ':G}{g:Look}{w:World}{p q:Patch}{v:AV}{r:Result Value}(e:Ext γ g γ' (upd g p))(f:Fr γ w γ' w)(h:Good γ' (upd g p) w q v r):Good γ g w (p++q) v r:=by
 obtain⟨u,w',γ'',h1,h2,h3,h4,h5⟩:=h;refine⟨u,w',γ'',h1,?_,?_,?_,f.trans h5⟩
 ·rw[jX];exact e.trans h2
 ·rw[jX];exact h3
 rw[jX];exact h4
def zMF {P:Program} {γ:G} {g:Look} {w:World} {nid:Nat} {t:TypeId} {n:Nat} {parts:List (Nat×AV)} {ps:Array (Nat×Value)} {v:AV} {p:Patch} (h:HR γ g w)
  (hn:γ.β nid=none) (hg:g nid=none) (hp:VPs γ g parts ps.toList) (hx:wU P g nid t n parts=some (.val v,p)):Good γ g w p v ((Instr.buildSlice t n ps).run P w):=by
 unfold wU at hx;split at hx
 ·rename_i elem hu;split at hx
  ·rename_i zero hz;obtain⟨γ',e,h',f,hb,mI⟩:=zOe h hp;obtain⟨i,z,hi,ng,mM,hQ,kb,n3⟩:=zJS (γ:=γ') (g:=upd g (xA g parts).2) hz;split at hx
   ·cases hx
   rename_i nx;split at hx
   ·rename_i es mi;cases hx;refine .after e f ?_;have mL:=mM.1;simp at mL;obtain⟨c',f1,f2,f3⟩:=zH1 (c:=(Array.range (n * zero.length)).map (z.cells[· % z.cells.size]!)) mi mI
     ⟨by simp,fun x hx=>by rw[(List.mem_replicate.1 hx).2],zPT n n mM n3 (Nat.le_refl _)⟩
    have hL:es.length=n:=by simpa using f3
    simp only[Instr.buildSlice,Sem.run_bind,yQ hu,Result.andThen_ok,vQ hQ];rw[if_neg (by omega)];have hM:=zRs (ty:=elem) (w:=w) (nid:=nid) (by rw[hb];exact hn) ((zCt g parts).upd_none hg) h' (w':={ w with heap:=w.heap.push (.cells c' elem) }) rfl
     (cap:=es.length) (Nat.le_refl _) f2.size f2.len f2.val
    rw[hL] at hM
    by_cases h0:n * zero.length=0
    ·have mj:∀F:Nat→Value,(Array.range (n * zero.length)).map F=#[]:=fun F=>by rw[h0];simp
     rw[mj] at f1;rw[if_pos h0];simp only[Sem.run_bind,Sem.run_pure,Result.andThen_ok,mj,f1,newRow,run_newObj];exact hM
    rw[if_neg h0];simp only[Sem.run_bind,zFo hi ng,Sem.run_pure,Result.andThen_ok,f1,newRow,run_newObj];exact hM
   cases hx
  cases hx
 cases hx
def zOd {P:Program} {γ:G} {g:Look} {w:World} {nid:Nat} {t:TypeId} {l c v:AV} {ul uc:Value} {p:Patch} (h:HR γ g w) (hn:γ.β nid=none) (hg:g nid=none)
  (hl:VR γ g l ul) (hc:VR γ g c uc) (hx:jU P nid t l c=some (.val v,p)):Good γ g w p v ((Instr.makeSlice t ul uc).run P w):=by
 unfold jU at hx;split at hx
 ·rename_i elem k1 l k2 c hu;split at hx
  ·rename_i zero hz;split at hx
   ·rename_i hh;obtain⟨mB,hH,mD⟩:=hh;cases hx;have kc:=hl.of_tree;have q6:=hc.of_tree;cases kc;cases q6;obtain⟨i,z,hi,ng,mM,hQ,kb,n3⟩:=zJS (γ:=γ) (g:=g) hz;obtain⟨i',mN,qo⟩:=zIe hQ;rw[hi] at mN;cases mN;have mX:i.bytes≤8192∧c<4294967296:=by
     unfold small at mD;split at mD
     ·rename_i i2 q7;have:=zDA q7;rw[hi] at this;cases this;simp at mD;exact mD.1
     cases mD
    have n4:i.bytes * c≤8192 * 4294967296:=Nat.mul_le_mul mX.1 (by omega);have hD:=run_make (P:=P) w t elem i z (vD hu) hi ng k1 k2 (Int.ofNat l) (Int.ofNat c) (by simp) (by simpa using mB) (by
     have:((i.bytes:Int) * (Int.ofNat c))=((i.bytes * c:Nat):Int):=by simp
     rw[this];omega) (by simp;omega)
    simp only[Int.ofNat_eq_natCast,Int.toNat_natCast] at hD;simp only[Int.ofNat_eq_natCast];rw[hD];have mL:=mM.1;simp at mL;have:=zRs (ty:=elem) (w:=w) (nid:=nid) hn hg h (w':=w.alloc (.cells (madeCells z.cells (c * i.size)) elem)) rfl (es:=List.replicate l zero) (cap:=c) (s:=zero.length)
     (by simpa using mB) (by simp [madeCells,qo]) (fun e he=>by rw[(List.mem_replicate.1 he).2]) (by
      have:=zPT l c mM n3 mB;rw[qo];exact this)
    simpa using this
   cases hx
  cases hx
 cases hx
def BO(b:Option Int)(u:Option Value):Prop:=(b=none∧u=none)∨∃k n,b=some n∧u=some (.int k n)
def zKh{γ:G}{g:Look}{T:Env}{a:Act}(h:ER γ g T a){x:Option Operand}{b:Option Int}(hb:bound T x=some b):BO b (x.map a.eval):=by
 unfold bound at hb;cases x with
 |none=>cases hb;exact .inl ⟨rfl,rfl⟩
 |some x =>
  simp only at hb;split at hb
  ·rename_i k n ho;cases hb;have:=yB h x;rw[ho] at this;have:=this.of_tree;generalize he:a.eval x=u at this;cases this;exact .inr ⟨k,n,rfl,by simp [he]⟩
  cases hb
def kS{P:Program}{w:World}{k:IntKind}{i:Int}{y:Nat}{c:BoundsCode}(h:0≤i∧i≤y):(Instr.sliceBound (.int k i) y c).run P w=.ok i.toNat w:=by
 simp only[Instr.sliceBound,asIntOf,Sem.run_bind,Sem.run_pure,Result.andThen_ok];rw[if_pos h]
 rfl
def qU {P:Program} {w:World} {iss:Bool} {len cap:Nat} {lo hi mx:Option Int} {ul uh um:Option Value} (k0:BO lo ul) (mE:BO hi uh) (mO:BO mx um)
  (mB:len≤cap) (hm:∀m,mx=some m→hi=some m∧0≤m∧m≤cap) (h1:0≤lo.getD 0) (h2:lo.getD 0≤hi.getD len) (h3:hi.getD len≤len) :
  (Instr.sliceBounds iss len cap ul uh um).run P w=.ok ((lo.getD 0).toNat,(hi.getD len).toNat,(mx.getD cap).toNat) w:=by
 unfold Instr.sliceBounds;rcases mO with ⟨rfl,rfl⟩|⟨km,m,rfl,rfl⟩
 ·simp only[Sem.run_bind,Sem.run_pure,Result.andThen_ok];rcases mE with ⟨rfl,rfl⟩|⟨kh,hh,rfl,rfl⟩
  ·rcases k0 with ⟨rfl,rfl⟩|⟨kl,l,rfl,rfl⟩
   ·simp
   simp at h1 h2 ⊢;rw[kS ⟨h1,h2⟩];simp
  simp at h1 h2 h3 ⊢;rw[kS ⟨by omega,by omega⟩];simp only[Result.andThen_ok];rcases k0 with ⟨rfl,rfl⟩|⟨kl,l,rfl,rfl⟩
  ·simp
  simp at h1 h2 ⊢;rw[kS ⟨h1,by omega⟩];simp
 obtain⟨hh,h0,hc⟩:=hm m rfl;subst hh;simp at h1 h2 h3;rcases mE with ⟨hh,_⟩|⟨kh,hh,he,rfl⟩
 ·cases hh
 cases he;simp only[Sem.run_bind];rw[kS ⟨h0,hc⟩];simp only[Result.andThen_ok];rw[kS ⟨h0,by omega⟩];simp only[Result.andThen_ok];rcases k0 with ⟨rfl,rfl⟩|⟨kl,l,rfl,rfl⟩
 ·simp
 simp at h1 h2 ⊢;rw[kS ⟨h1,by omega⟩];simp
def zJV(s:List Nat)(l h:Nat):(mkS s).extract l h=mkS ((s.take h).drop l):=by
 apply ByteArray.ext;simp [mkS,ByteArray.data_extract,List.extract_eq_take_drop,List.map_take,List.map_drop,List.drop_take]
def zEE{α:Type}(es:List α)(l h i:Nat)(x:α)(hx:((es.take h).drop l)[i]?=some x):es[l+i]?=some x:=by
 rw[List.getElem?_drop] at hx;have hi:=zQ hx;simp at hi;rw[List.getElem?_take_of_lt (by omega)] at hx;exact hx
def zLz{I:Imm}{nl clip:Bool}{es:List (List Tree)}{u:Value}{n:Nat}(h:TR I (.sl nl clip es) u)(hh:jQ n es=true):∀e ∈ es,e.length=n:=by
 cases h with
 |sl _ _ _ a cap s val h0 h1 h2 h3 h4 h5 h6 =>
  cases es with
  |nil=>intro e he;cases he
  |cons e0 es =>
   simp only[jQ] at hh;have hn:=Nat.eq_of_beq_eq_true hh;have hs:=h2 e0 (by simp);intro e he;rw[h2 e he,← hs,hn]
def zU8 {P:Program} {γ:G} {g:Look} {w:World} {t:TypeId} {x v:AV} {u:Value} {lo hi mx:Option Int} {ul uh um:Option Value} (h:HR γ g w) (hv:VR γ g x u)
  (k0:BO lo ul) (mE:BO hi uh) (mO:BO mx um) (hx:slice P g t x lo hi mx=some v):Good γ g w [] v ((Instr.sliceAt t u ul uh um).run P w):=by
 unfold slice at hx;split at hx
 ·rename_i s hu;dsimp only at hx;split at hx
  ·rename_i hh;obtain⟨hm,h1,h2,h3⟩:=hh;cases hx;obtain⟨rfl,hb⟩:=hv.of_tree.str_inv;have mc:mx=none:=by simpa using hm
   subst mc;have mY:um=none:=by rcases mO with ⟨_,hh⟩|⟨_,_,hh,_⟩;exact hh;cases hh
   subst mY;have hD:=qU (P:=P) (w:=w) (iss:=false) (len:=s.length) (cap:=s.length) k0 mE (.inl ⟨rfl,rfl⟩) (Nat.le_refl _) (fun m hm=>by cases hm) h1 h2 h3;simp only[Instr.sliceAt,Instr.slice,Sem.run_bind,yQ hu,Result.andThen_ok,Option.isSome_none,Bool.false_eq_true,if_false,zAb,hD,Sem.run_pure];rw[zJV];exact .pure h (.t _ _ (.mkS fun b n5=>hb b (List.mem_of_mem_take (List.mem_of_mem_drop n5))))
  cases hx
 ·rename_i elem nl clip es hu;split at hx
  ·rename_i n hn;dsimp only at hx;split at hx
   ·rename_i hh;obtain⟨h1,h2,h3,nJ⟩:=hh;have hL:=zLz hv.of_tree nJ;have mU:=hv.of_tree;cases mU with
    |sl _ _ _ a cap s val g0 g1 g2 g3 g4 g5 g6 =>
     have hm:∀m,mx=some m→m=hi.getD es.length→m≤cap∧0≤m:=fun m _ rz=>by omega
     have mi:∀e ∈ es,s=n:=fun e he=>by rw[← g2 e he];exact hL e he
     -- the new slice,whatever its capacity
     have key:∀(clip':Bool) (m:Nat),(hi.getD es.length).toNat≤m→m≤cap→(clip'=true→m - (lo.getD 0).toNat=(hi.getD es.length).toNat - (lo.getD 0).toNat) →
       TR γ.imm (.sl nl clip' ((es.take (hi.getD es.length).toNat).drop (lo.getD 0).toNat))
        (.slice (if m=(lo.getD 0).toNat then a else a.map (·.add ((lo.getD 0).toNat * n))) ((hi.getD es.length).toNat - (lo.getD 0).toNat) (m - (lo.getD 0).toNat)):=by
      intro clip' m rA qp mz;have mw:((es.take (hi.getD es.length).toNat).drop (lo.getD 0).toNat).length=(hi.getD es.length).toNat - (lo.getD 0).toNat:=by simp;omega
      rw[← mw];refine .sl nl clip' _ _ (m - (lo.getD 0).toNat) s (fun i j=>val ((lo.getD 0).toNat+i) j) (fun mW=>?_) (fun mW=>?_) (fun e he=>?_) (fun i j e c he hc=>?_) (by rw[mw];omega) (fun hc=>by rw[mw];exact mz hc) (fun i j e c he hc=>g6 _ j e c (zEE es _ _ i e he) hc)
      ·obtain⟨ha,he,hc⟩:=g0 mW;subst ha;subst he;subst hc;refine⟨by split<;>rfl,by simp,by omega⟩
      ·obtain⟨hI,b,o,ha,hc⟩:=g1 mW;refine⟨?_,b,o+(lo.getD 0).toNat * s,fun nh=>?_,fun i j e c he n6=>?_⟩
       ·split
        ·exact hI
        cases a with
        |none=>exact absurd rfl hI
        |some a=>simp
       ·have kb:0<((es.take (hi.getD es.length).toNat).drop (lo.getD 0).toNat).length:=List.length_pos_iff.2 nh;rw[mw] at kb;have ny:es≠[]:=fun hh=>by rw[hh] at nh;simp at nh
        rw[if_neg (by omega),ha ny];obtain⟨e0,mZ⟩:=List.exists_mem_of_ne_nil es ny;rw[← mi e0 mZ];simp [vR]
       have:=hc _ j e c (zEE es _ _ i e he) n6;rw[Nat.add_mul] at this;rw[← this];congr 1;omega
      ·exact g2 e (List.mem_of_mem_take (List.mem_of_mem_drop he))
      exact g3 _ j e c (zEE es _ _ i e he) hc
     split at hx
     ·cases hx;have mY:um=none:=by rcases mO with ⟨_,hh⟩|⟨_,_,hh,_⟩;exact hh;cases hh
      subst mY;have hD:=qU (P:=P) (w:=w) (iss:=true) (len:=es.length) (cap:=cap) k0 mE (.inl ⟨rfl,rfl⟩) g4 (fun m hm=>by cases hm) h1 h2 h3;simp only[Instr.sliceAt,Instr.slice,Sem.run_bind,yQ hu,Result.andThen_ok,hD,vQ hn,Sem.run_pure,Option.getD_none,Int.toNat_natCast];refine .pure h (.t _ _ (key _ cap (by omega) (Nat.le_refl _) fun hc=>?_));simp only[Bool.and_eq_true,beq_iff_eq] at hc;have:=g5 hc.1;omega
     rename_i m;split at hx
     ·rename_i nz;cases hx;obtain⟨nz,ml⟩:=nz;subst nz;obtain⟨qp,q8⟩:=hm _ rfl rfl;have n7:hi=some (hi.getD es.length):=by
       cases hi with
       |none=>cases ml
       |some hv=>rfl
      have hD:=qU (P:=P) (w:=w) (iss:=true) (len:=es.length) (cap:=cap) k0 mE mO g4 (fun m hm=>by cases hm;exact⟨n7,q8,qp⟩) h1 h2 h3;simp only[Instr.sliceAt,Instr.slice,Sem.run_bind,yQ hu,Result.andThen_ok,hD,vQ hn,Sem.run_pure,Option.getD_some];exact .pure h (.t _ _ (key true (hi.getD es.length).toNat (Nat.le_refl _) (by omega) fun _=>rfl))
     cases hx
   cases hx
  cases hx
 ·rename_i elem id ver hu;split at hx
  ·rename_i s hA frz es n hg hn;dsimp only at hx;split at hx
   ·rename_i hh;obtain⟨rfl,rfl,h1,h2,h3⟩:=hh;cases hv with
    |hs _ _ a len cap ho hh =>
     obtain⟨b,s',hb,hd,rfl,hJ,hQ⟩:=hh (qW hg);rw[vO hg] at hd;cases hd;split at hx
     ·cases hx;have mY:um=none:=by rcases mO with ⟨_,hh⟩|⟨_,_,hh,_⟩;exact hh;cases hh
      subst mY;have hD:=qU (P:=P) (w:=w) (iss:=true) (len:=es.length) (cap:=cap) k0 mE (.inl ⟨rfl,rfl⟩) hJ (fun m hm=>by cases hm) h1 h2 h3;simp only[Instr.sliceAt,Instr.slice,Sem.run_bind,yQ hu,Result.andThen_ok,hD,vQ hn,Sem.run_pure,Option.getD_none,Int.toNat_natCast];refine .pure h ?_;split
      ·rename_i mz;exact .hsub id ver _ _ _ _ ho fun _=>⟨b,s,es.length,hb,vO hg,by omega,by omega,fun hI=>by omega⟩
      simp only[Option.map_some];exact .hsub id ver _ _ _ _ ho fun _=>⟨b,s,es.length,hb,vO hg,by omega,by omega,fun hI=>by rw[vR];simp⟩
     rename_i m;split at hx
     ·rename_i nz;cases hx;obtain⟨rfl,nJ,ml⟩:=nz;have n7:hi=some (hi.getD es.length):=by
       cases hi with
       |none=>cases ml
       |some hv=>rfl
      have hD:=qU (P:=P) (w:=w) (iss:=true) (len:=es.length) (cap:=cap) k0 mE mO hJ (fun m hm=>by cases hm;exact⟨n7,by omega,by omega⟩) h1 h2 h3;simp only[Instr.sliceAt,Instr.slice,Sem.run_bind,yQ hu,Result.andThen_ok,hD,vQ hn,Sem.run_pure,Option.getD_some];refine .pure h (.t _ _ ?_);rw[if_pos (by omega)];have e1:(hi.getD es.length).toNat - (lo.getD 0).toNat=([]:List (List Tree)).length:=by simp;omega
      rw[e1];exact .sl false true [] (some _) _ 0 (fun _ _=>undef) (fun hh=>by cases hh) (fun _=>⟨by simp,0,0,fun hh=>absurd rfl hh,fun _ _ _ _ he=>by simp at he⟩) (fun _ he=>by cases he)
       (fun _ _ _ _ he=>by simp at he) (Nat.zero_le _) (fun _=>rfl) (fun _ _ _ _ he=>by simp at he)
     cases hx
   cases hx
  cases hx
 ·rename_i elem id ver lo0 len hu;split at hx
  ·rename_i s hA frz es n hg hn;dsimp only at hx;split at hx
   ·rename_i hh;obtain⟨rfl,rfl,q9,h1,h2,h3,hm⟩:=hh;cases hx;have mc:mx=none:=by simpa using hm
    subst mc;have mY:um=none:=by rcases mO with ⟨_,hh⟩|⟨_,_,hh,_⟩;exact hh;cases hh
    subst mY;cases hv with
    |hsub _ _ _ _ a cap ho hh =>
     obtain⟨b,s',n',hb,hd,mB,rb,ha⟩:=hh (qW hg);rw[vO hg] at hd;cases hd;have hD:=qU (P:=P) (w:=w) (iss:=true) (len:=len) (cap:=cap) k0 mE (.inl ⟨rfl,rfl⟩) mB (fun m hm=>by cases hm) h1 h2 h3;simp only[Instr.sliceAt,Instr.slice,Sem.run_bind,yQ hu,Result.andThen_ok,hD,vQ hn,Sem.run_pure,Option.getD_none,Int.toNat_natCast];refine .pure h ?_;split
     ·rename_i mz;exact .hsub id ver _ _ _ _ ho fun _=>⟨b,s,es.length,hb,vO hg,by omega,by omega,fun hI=>by omega⟩
     simp only[Option.map_some];refine .hsub id ver _ _ _ _ ho fun _=>⟨b,s,es.length,hb,vO hg,by omega,by omega,fun hI=>?_⟩
     rw[ha (by omega),vR,Nat.add_mul]
   cases hx
  cases hx
 cases hx
def zN5{n:Nat}{es:List (List Tree)}(h:lens n es=true):∀e ∈ es,e.length=n:=fun e he =>
 Nat.eq_of_beq_eq_true (List.all_eq_true.1 h e he)
structure Flat (I:Imm) (n:Nat) (es:List (List Tree)) (vs:List Value):Prop where
 len:vs.length=es.length * n
 val:∀(i j:Nat) e t,es[i]?=some e→e[j]?=some t→∃v,vs[i * n+j]?=some v∧TR I t v∧v.oneCell'=true
 one:∀v ∈ vs,v.oneCell'=true
def zOP{n k:Nat}{es:List (List Tree)}(h:k<es.length * n):k / n<es.length∧k % n<n∧k / n * n+k % n=k:=by
 have hn:0<n:=Nat.pos_of_ne_zero fun h0=>by rw[h0] at h;simp at h
 exact⟨Nat.div_lt_of_lt_mul (by rw[Nat.mul_comm];exact h),Nat.mod_lt _ hn,by rw[Nat.mul_comm];exact Nat.div_add_mod k n⟩
theorem Flat.mk' {I:Imm} {n:Nat} {es:List (List Tree)} {vs:List Value} (hn:∀e ∈ es,e.length=n) (len:vs.length=es.length * n)
  (val:∀(i j:Nat) e t,es[i]?=some e→e[j]?=some t→∃v,vs[i * n+j]?=some v∧TR I t v∧v.oneCell'=true):Flat I n es vs:=by
 refine⟨len,val,fun v hv=>?_⟩;obtain⟨k,hk⟩:=List.getElem?_of_mem hv;have mA:=zQ hk;rw[len] at mA;obtain⟨h1,h2,h3⟩:=zOP mA;have he:es[k / n]?=some es[k / n]:=List.getElem?_eq_getElem h1;have md:=hn _ (List.mem_of_getElem? he);have ht:(es[k / n])[k % n]?=some ((es[k / n])[k % n]'(by omega)):=List.getElem?_eq_getElem (by omega);obtain⟨v',h4,h5,h6⟩:=val _ _ _ _ he ht;rw[h3,hk] at h4;cases h4;exact h6
theorem Flat.append{I:Imm}{n:Nat}{es fs:List (List Tree)}{vs us:List Value}(hn:∀e ∈ es,e.length=n)(re:∀e ∈ fs,e.length=n)(h:Flat I n es vs)(h':Flat I n fs us):Flat I n (es++fs) (vs++us):=by
 refine .mk' (fun e he=>?_) (by simp [h.len,h'.len,Nat.add_mul]) fun i j e t he ht=>?_
 ·rcases List.mem_append.1 he with he|he
  ·exact hn e he
  exact re e he
 by_cases hi:i<es.length
 ·rw[List.getElem?_append_left hi] at he;obtain⟨v,h1,h2⟩:=h.val i j e t he ht;exact⟨v,by rw[List.getElem?_append_left (zQ h1)];exact h1,h2⟩
 rw[List.getElem?_append_right (by omega)] at he;obtain⟨v,h1,h2⟩:=h'.val (i - es.length) j e t he ht;refine⟨v,?_,h2⟩;have hm:es.length * n≤i * n:=Nat.mul_le_mul_right n (by omega);rw[List.getElem?_append_right (by rw[h.len];omega),h.len];rw[Nat.sub_mul] at h1;rw[← h1];congr 1;omega
def zEc {γ:G} {g:Look} {w:World} {x:AV} {u:Value} {es:List (List Tree)} {n:Nat} (h:HR γ g w) (hx:elems g x=some es) (hv:VR γ g x u) (hn:∀e ∈ es,e.length=n) :
  ∃a cap vs,u=.slice a es.length cap∧es.length≤cap∧Flat γ.imm n es vs∧∀(j:Nat) v,vs[j]?=some v→∃b o,a=some ⟨b,o,none⟩∧w.cell? ⟨b,o+j,none⟩=some v:=by
 have arr:∀(id s ver lo len:Nat) (frz:Bool) (es0:List (List Tree)) (b:Nat),g id=some (.arr s ver frz es0)→γ.β id=some b→cut es0 lo len=some es →
   ∃vs,Flat γ.imm n es vs∧∀(j:Nat) v,vs[j]?=some v→len≠0∧w.cell? ⟨b,lo * s+j,none⟩=some v:=by
  intro id s ver lo len frz es0 b hg hb hc;obtain⟨o,ho,hH⟩:=h.obj id b hb;rw[hg] at ho;cases ho;obtain⟨⟨c,ty,fr,h1,h2,h3,h4,h5,h6,h7⟩,_⟩:=hH;have hL:=vM hc;have hN:=zAc hc;have hU:∀(i:Nat) e,es[i]?=some e→es0[lo+i]?=some e:=fun i e he=>by
   have hi:i<len:=by have:=zQ he;omega
   rw[zDD hc hi] at he;exact he
  by_cases he:es=[]
  ·subst he;exact⟨[],.mk' hn (by simp) (fun _ _ _ _ hh=>by simp at hh),fun j v hj=>by simp at hj⟩
  obtain⟨e0,mZ⟩:=List.exists_mem_of_ne_nil es he;obtain⟨i0,rf⟩:=List.getElem?_of_mem mZ;have n8:s=n:=by rw[← hn e0 mZ,h5 e0 (List.mem_of_getElem? (hU i0 e0 rf))]
  subst n8;have nx:(lo+len) * s≤es0.length * s:=Nat.mul_le_mul_right s hN.1;rw[Nat.add_mul] at nx;refine⟨(c.toList.drop (lo * s)).take (len * s),.mk' hn (by simp [hL];omega) (fun i j e t mn ni=>?_),fun j v hj=>?_⟩
  ·have hi:i<len:=by have:=zQ mn;omega
   have m8:j<s:=by have:=zQ ni;rw[hn e (List.mem_of_getElem? mn)] at this;exact this
   have kc:=wA hi (k:=j+1) (s:=s) (by omega);have kz:c[(lo+i) * s+j]?=some (c[(lo+i) * s+j]'(by rw[Nat.add_mul];omega)):=Array.getElem?_eq_getElem _;refine⟨_,?_,h6 (lo+i) j e t _ (hU i e mn) ni kz⟩;rw[List.getElem?_take_of_lt (by omega),List.getElem?_drop,Array.getElem?_toList,← kz]
   congr 1;rw[Nat.add_mul];omega
  have m8:j<len * s:=by have:=zQ hj;simp at this;omega
  rw[List.getElem?_take_of_lt m8,List.getElem?_drop,Array.getElem?_toList] at hj;exact⟨fun h0=>by rw[h0] at m8;simp at m8,by rw[zBU h1];exact hj⟩
 cases x with
 |t x =>
  obtain⟨nl,clip,rfl⟩:∃nl clip,x=.sl nl clip es:=by
   cases x<;>simp only[elems,reduceCtorEq,Option.some.injEq] at hx
   subst hx;exact⟨_,_,rfl⟩
  have mU:=hv.of_tree;cases mU with
  |sl _ _ _ a cap s val h0 h1 h2 h3 h4 h5 h6 =>
   by_cases he:es=[]
   ·subst he;exact⟨a,cap,[],rfl,h4,.mk' hn (by simp) (fun _ _ _ _ hh=>by simp at hh),fun j v hj=>by simp at hj⟩
   have mW:nl=false:=by
    cases nl with
    |false=>rfl
    |true=>exact absurd (h0 rfl).2.1 he
   obtain⟨_,b,o,ha,hc⟩:=h1 mW;have ha:=ha he;subst ha;obtain⟨e0,mZ⟩:=List.exists_mem_of_ne_nil es he;have n8:s=n:=by rw[← hn e0 mZ,h2 e0 mZ]
   subst n8;refine⟨_,cap,(List.range (es.length * s)).map fun k=>val (k / s) (k % s),rfl,h4,.mk' hn (by simp) (fun i j e t mn ni=>?_),fun k v hk=>⟨b,o,rfl,?_⟩⟩
   ·have hi:=zQ mn;have hj:j<s:=by have:=zQ ni;rw[hn e (List.mem_of_getElem? mn)] at this;exact this
    have kc:=wA hi (k:=j+1) (s:=s) (by omega);refine⟨val i j,?_,h3 i j e t mn ni,h6 i j e t mn ni⟩;rw[List.getElem?_map,List.getElem?_range (by omega)];have e1:(i * s+j) / s=i:=by rw[Nat.mul_comm,Nat.mul_add_div (by omega),Nat.div_eq_of_lt hj];rfl
    have e2:(i * s+j) % s=j:=by rw[Nat.mul_comm,Nat.mul_add_mod,Nat.mod_eq_of_lt hj]
    simp [e1,e2]
   have mA:=zQ hk;simp at mA;rw[List.getElem?_map,List.getElem?_range mA] at hk;simp at hk;subst hk;obtain⟨g1,g2,g3⟩:=zOP mA;have nh:es[k / s]?=some es[k / s]:=List.getElem?_eq_getElem g1;have md:=hn _ (List.mem_of_getElem? nh);have rg:(es[k / s])[k % s]?=some ((es[k / s])[k % s]'(by omega)):=List.getElem?_eq_getElem (by omega);have:=h.imm _ _ _ (hc _ _ _ _ nh rg);rw[Nat.add_assoc,g3] at this;exact this
 |hs id ver =>
  obtain⟨s,frz,hg⟩:=zKe hx;cases hv with
  |hs _ _ a len cap ho hh =>
   obtain⟨b,s',hb,hd,rfl,hJ,hQ⟩:=hh (qW hg);rw[vO hg] at hd;cases hd;obtain⟨vs,f1,f2⟩:=arr id s ver 0 es.length frz es b hg hb (zRn es);exact⟨_,cap,vs,rfl,hJ,f1,fun j v hj=>⟨b,0,rfl,by have:=(f2 j v hj).2;simpa using this⟩⟩
 |hsub id ver lo len =>
  obtain⟨s,frz,es0,hg,hc⟩:=zHv hx;cases hv with
  |hsub _ _ _ _ a cap ho hh =>
   obtain⟨b,s',n',hb,hd,mB,k0,ha⟩:=hh (qW hg);rw[vO hg] at hd;cases hd;have hl:=vM hc;obtain⟨vs,f1,f2⟩:=arr id s ver lo len frz es0 b hg hb hc;exact⟨some a,cap,vs,by rw[hl],by omega,f1,fun j v hj=>⟨b,lo * s,by rw[ha (f2 j v hj).1],(f2 j v hj).2⟩⟩
 |_=>simp [elems] at hx
def zCp(s:List Nat):∀e ∈ byteCells s,e.length=1:=fun e he=>by
 unfold byteCells at he;obtain⟨b,_,rfl⟩:=List.mem_map.1 he
 rfl
def zMn(I:Imm)(s:List Nat):Flat I 1 (byteCells s) (s.map fun b:Nat=>Value.int .u8 (b:Int)):=by
 refine .mk' (zCp s) (by simp [byteCells]) fun i j e t he ht=>?_
 unfold byteCells at he;rw[List.getElem?_map] at he;cases hb:s[i]? with
 |none=>rw[hb] at he;cases he
 |some b =>
  rw[hb] at he;cases he;have hj:j=0:=by have:=zQ ht;simp at this;exact this
  subst hj;cases ht;exact⟨.int .u8 b,by simp [hb],.int _ _,rfl⟩
def zM6{s:List Nat}(h:∀b ∈ s,b<256):((mkS s).data.map fun b=>Value.int .u8 b.toNat)=(s.map fun b:Nat=>Value.int .u8 (b:Int)).toArray:=by
 apply Array.ext';simp only[mkS,Array.toList_map,List.map_map];apply List.map_congr_left;intro b hb;simp [UInt8.toNat_ofNat',Nat.mod_eq_of_lt (h b hb)]
def zGo {P:Program} {γ:G} {g:Look} {w:World} {x:AV} {u:Value} {new:List (List Tree)} {n:Nat} (h:HR γ g w) (hx:added g x=some new) (hv:VR γ g x u) (hn:∀e ∈ new,e.length=n) :
  (∀w':World,(Builtin.lenOf u).run P w'=.ok new.length w')∧∃vs,Flat γ.imm n new vs ∧
   ∀w':World,(∀b o,w'.cell? ⟨b,o,none⟩=w.cell? ⟨b,o,none⟩)→(Builtin.firstCells n new.length u).run P w'=.ok vs.toArray w':=by
 unfold added at hx;split at hx
 ·rename_i s;cases hx;obtain⟨rfl,hb⟩:=hv.of_tree.str_inv;refine⟨fun w'=>by simp [Builtin.lenOf,zAb,byteCells],s.map fun b:Nat=>Value.int .u8 (b:Int),?_,fun w' _=>?_⟩
  ·by_cases h0:s=[]
   ·subst h0;exact .mk' hn (by simp [byteCells]) (fun _ _ _ _ hh=>by simp [byteCells] at hh)
   obtain⟨e,he⟩:=List.exists_mem_of_ne_nil (byteCells s) (by unfold byteCells;simpa using h0);have:n=1:=by rw[← hn e he,zCp s e he]
   subst this;exact zMn _ s
  have hl:(byteCells s).length=s.length:=by simp [byteCells]
  simp only[Builtin.firstCells,hl,Sem.run_pure];rw[zJV,List.take_length,List.drop_zero,zM6 hb]
 obtain⟨a,cap,vs,rfl,hJ,f1,f2⟩:=zEc h hx hv hn;refine⟨fun w'=>rfl,vs,f1,fun w' hw=>?_⟩;cases a with
 |none =>
  have:vs=[]:=by
   cases vs with
   |nil=>rfl
   |cons v vs=>obtain⟨b,o,hh,_⟩:=f2 0 v rfl;cases hh
  subst this;exact run_firstCells_none w' _ _ _ _
 |some a =>
  refine run_firstCells_some w' n new.length a new.length cap vs f1.len fun j v hj=>?_
  obtain⟨b,o,ha,hc⟩:=f2 j v hj;cases ha;rw[vR,hw];exact hc
def zMc{P:Program}{t:TypeId}{n:Nat}(h:small P t n=true):∃i z,P.info? t=some i∧i.bytes≤8192∧n<4294967296∧i.zero=some z∧z.cells.size=i.size:=by
 unfold small at h;split at h
 ·rename_i i hi;simp at h;obtain⟨⟨h1,h2⟩,h3⟩:=h;unfold zON at h3;split at h3
  ·rename_i z hz;exact⟨i,z,zDA hi,h1,h2,hz,by have:=Nat.eq_of_beq_eq_true h3;simpa using this⟩
  cases h3
 cases h
def zLI{P:Program}{t:TypeId}(h:yI P t=true):∃d,und P t=some d∧(∀k,d≠.int k):=by
 unfold yI at h;split at h
 ·cases h
 ·rename_i d h1 hd;exact⟨d,hd,fun k hk=>by subst hk;exact h1 k rfl⟩
 cases h
def zGm(w:World)(need old:Nat)(e:TypeId):need≤grownCap w need old e:=by
 unfold grownCap Question.cut;exact Nat.le_add_right _ _
def zOU {P:Program} {w:World} {t t' ty elem:TypeId} {n m sLen sCap:Nat} {base:Option Addr} {ux:Value} {i:TypeInfo} {z:Value} {olds news:List Value} (hu:und P t=some (.slice elem))
  (hi:P.info? elem=some i) (hz:i.zero=some z) (hs:i.size=n) (n9:yI P t'=true) (hb:i.bytes≤8192) (qq:sLen+m<4294967296)
  (hl:∀w':World,(Builtin.lenOf ux).run P w'=.ok m w') (ho:(Builtin.firstCells n sLen (.slice base sLen sCap)).run P w.drew=.ok olds.toArray w.drew)
  (hn:(Builtin.firstCells n m ux).run P w.drew=.ok news.toArray w.drew) (hg:sCap<sLen+m) :
  (Builtin.append_ #[t,t'] ty #[.slice base sLen sCap,ux]).run P w =
   .ok (.slice (some ⟨w.heap.size,0,none⟩) (sLen+m) (grownCap w (sLen+m) sCap elem))
    (w.drew.alloc (.cells (olds.toArray++news.toArray++Builtin.zeroCells z.cells (grownCap w (sLen+m) sCap elem - (sLen+m))) elem)):=by
 have rh:=nextslicecap_le hg;have rB:Builtin.nextslicecap (sLen+m) sCap * i.bytes≤(2 * (sLen+m)) * 8192:=Nat.mul_le_mul rh hb;have h1:¬ (sLen+m≤sCap):=by omega
 have ri:¬ (9223372036854775807<((sLen:Int)+(m:Int))):=by omega
 have rj:¬ (281474976710656<Builtin.nextslicecap (sLen+m) sCap * i.bytes):=by omega
 obtain⟨d,hd,hk⟩:=zLI n9;subst hs;simp [Builtin.append_,yQ hu,yQ hd,sizeOf,typeInfo,zeroValue,hi,hz,hl,h1,ri,rj,Question.forced,ho,hn,newRow,grownCap]
 congr 2
 apply Array.ext';simp [List.append_assoc]
def zO2 {P:Program} {w:World} {t t' ty elem:TypeId} {n m sLen sCap:Nat} {base:Option Addr} {ux:Value} {i:TypeInfo} {news:List Value} (hu:und P t=some (.slice elem))
  (hi:P.info? elem=some i) (hs:i.size=n) (n9:yI P t'=true) (hl:∀w':World,(Builtin.lenOf ux).run P w'=.ok m w')
  (hn:(Builtin.firstCells n m ux).run P w=.ok news.toArray w) (hg:sLen+m≤sCap) :
  (Builtin.append_ #[t,t'] ty #[.slice base sLen sCap,ux]).run P w =
   ((match base with|some a=>storeCells (a.add (sLen * n)) news|none=>pure ()).run P w).andThen fun _ w'=>.ok (.slice base (sLen+m) sCap) w':=by
 obtain⟨d,hd,hk⟩:=zLI n9;subst hs;cases base with
 |none=>simp [Builtin.append_,yQ hu,yQ hd,sizeOf,typeInfo,hi,hl,hg,hn]
 |some a=>simp [Builtin.append_,yQ hu,yQ hd,sizeOf,typeInfo,hi,hl,hg,hn]
def zSj {γ:G} {g:Look} {w w':World} {id n:Nat} {o:Obj} {X:Go.Obj} (e:Ext γ g (γ.new id w.heap.size n) (upd g [(id,o)])) (h:HR γ g w)
  (hw:w'.heap=w.heap.push X) (ho:OR (γ.new id w.heap.size n) (upd g [(id,o)]) w' id w.heap.size o) (kj:w'.os=w.os∧w'.output=w.output:=by exact⟨rfl,rfl⟩) :
  HR (γ.new id w.heap.size n) (upd g [(id,o)]) w'∧Fr γ w (γ.new id w.heap.size n) w':=by
 have ko:∀b,b<w.heap.size→w'.heap[b]?=w.heap[b]?:=fun b hb=>by
  rw[hw,Array.getElem?_push];simp [Nat.ne_of_lt hb]
 refine⟨⟨fun i b hb=>?_,fun i i' b hb hP=>?_,fun b i v hv=>?_⟩,⟨by rw[hw];simp,fun b hb _=>ko b hb,fun i b hb=>?_,fun b i v hv=>.inl hv,kj⟩⟩
 ·by_cases hid:i=id
  ·subst hid;simp [G.new] at hb;subst hb;exact⟨o,by rw[yS,if_pos rfl],ho⟩
  simp [G.new,hid] at hb;obtain⟨x,hx,hH⟩:=h.obj i b hb;exact⟨x,by rw[yS,if_neg hid];exact hx,hH.mono e (ko b hH.lt) (by simp [G.new,hid]) (fun _=>rfl)⟩
 ·by_cases hid:i=id<;>by_cases ka:i'=id
  ·rw[hid,ka]
  ·simp [G.new,hid] at hb;simp [G.new,ka] at hP;subst hb;have:=h.lt hP;omega
  ·simp [G.new,ka] at hP;simp [G.new,hid] at hb;subst hP;have:=h.lt hb;omega
  simp [G.new,hid] at hb;simp [G.new,ka] at hP;exact h.inj i i' b hb hP
 ·have hc:=h.imm b i v hv;rw[kX (ko b (zEL hc))];exact hc
 by_cases hid:i=id
 ·simp [G.new,hid] at hb;exact .inl (by omega)
 simp [G.new,hid] at hb;exact .inr ⟨i,hb⟩
def zP5 {γ:G} {g:Look} {w w':World} {id b:Nat} {o':Obj} (e:Ext γ g γ (upd g [(id,o')])) (h:HR γ g w) (hb:γ.β id=some b) (mS:∀i,γ.imm b i=none)
  (hw:∀b',b'≠b→w'.heap[b']?=w.heap[b']?) (hQ:w'.heap.size=w.heap.size) (ho:OR γ (upd g [(id,o')]) w' id b o') (kj:w'.os=w.os∧w'.output=w.output:=by first|exact⟨rfl,rfl⟩|exact zEJ _ _ _ _):HR γ (upd g [(id,o')]) w'∧Fr γ w γ w':=by
 refine⟨⟨fun i b' hS=>?_,h.inj,fun b' o v hv=>?_⟩,⟨by omega,fun b' _ hn=>hw b' (fun hh=>hn id (by rw[hh];exact hb)),fun i b' hS=>.inr ⟨i,hS⟩,fun _ _ _ hv=>.inl hv,kj⟩⟩
 ·by_cases hi:i=id
  ·subst hi;rw[hb] at hS;cases hS;exact⟨o',by rw[yS,if_pos rfl],ho⟩
  obtain⟨x,hx,hH⟩:=h.obj i b' hS;have mv:b'≠b:=fun hh=>hi (h.inj i id b (hh ▸ hS) hb)
  exact⟨x,by rw[yS,if_neg hi];exact hx,hH.mono e (hw b' mv) rfl (fun _=>rfl)⟩
 have mv:b'≠b:=fun hh=>by rw[hh,mS] at hv;cases hv
 rw[kX (hw b' mv)];exact h.imm b' o v hv
theorem Flat.cells {γ:G} {n:Nat} {es:List (List Tree)} {vs:List Value} {c:Array Value} (h:Flat γ.imm n es vs) (hn:∀e ∈ es,e.length=n) (hc:∀k,k<es.length * n→c[k]?=vs[k]?) :
  ∀(i j:Nat) e t v,es[i]?=some e→e[j]?=some t→c[i * n+j]?=some v→TR γ.imm t v∧v.oneCell'=true:=by
 intro i j e t v he ht hv;obtain⟨v',h1,h2⟩:=h.val i j e t he ht;have kc:=wA (zQ he) (k:=j+1) (s:=n) (by have:=zQ ht;rw[hn e (List.mem_of_getElem? he)] at this;omega);rw[hc _ (by omega),h1] at hv;cases hv;exact h2
def zSI {P:Program} {γ:G} {g:Look} {w:World} {nid:Nat} {t t' ty:TypeId} {s x v:AV} {us ux:Value} {p:Patch} (h:HR γ g w) (hn:(∃o,(nid,o) ∈ p)→γ.β nid=none) (hg:(∃o,(nid,o) ∈ p)→g nid=none)
  (hs:VR γ g s us) (hx:VR γ g x ux) (ha:append P g nid t t' s x=some (.val v,p)):Good γ g w p v ((Builtin.append_ #[t,t'] ty #[us,ux]).run P w):=by
 unfold append at ha;split at ha
 ·rename_i elem hu;split at ha
  ·rename_i new n m0 hQ nK;obtain⟨i,hi,me⟩:=zIe hQ;split at ha
   ·rename_i nl clip es;have kp:=hs.of_tree;split at ha
    ·-- nothing is put behind it
     cases ha;obtain⟨hl,vs,hf,nj⟩:=zGo (P:=P) (n:=n) h m0 hx (fun e he=>by cases he);have mJ:vs=[]:=List.eq_nil_of_length_eq_zero (by rw[hf.len];simp);subst mJ;cases kp with
     |sl _ _ _ a cap s0 val h0 h1 h2 h3 h4 h5 h6 =>
      rw[zO2 (news:=[]) hu hi me nK hl (nj w fun _ _=>rfl) (by simpa using h4)];have:((match a with|some a=>storeCells (a.add (es.length * n)) []|none=>pure ()).run P w:Result Unit)=.ok () w:=by cases a<;>rfl
      rw[this];exact .pure h (.t _ _ (.sl nl clip es a cap s0 val h0 h1 h2 h3 h4 h5 h6))
    rename_i e new;split at ha
    ·rename_i hh;obtain⟨rfl,qa,nJ,mD,kb⟩:=hh;cases ha;obtain⟨i',z,mN,hb,kc,hz,qb⟩:=zMc mD;rw[hi] at mN;cases mN;have ku:=zN5 qa;have mi:=zLz kp nJ;obtain⟨hl,vs,hf,nj⟩:=zGo (P:=P) (n:=n) h m0 hx ku;have hlen_new:(e::new).length≠0:=by simp
     cases kp with
     |sl _ _ _ a cap s0 val h0 h1 h2 h3 h4 h5 h6 =>
      have nn:=h5 rfl;subst nn;obtain⟨a',cap',olds,nv,hJ,m1,nL⟩:=zEc (n:=n) h (x:=.t (.sl nl true es)) rfl (.t _ _ (.sl nl true es a _ s0 val h0 h1 h2 h3 h4 h5 h6)) mi;cases nv;have qc:(Builtin.firstCells n es.length (.slice a es.length es.length)).run P w.drew=.ok olds.toArray w.drew:=by
       cases a with
       |none =>
        have:olds=[]:=by
         cases olds with
         |nil=>rfl
         |cons v vs=>obtain⟨b,o,hh,_⟩:=nL 0 v rfl;cases hh
        subst this;exact run_firstCells_none _ _ _ _ _
       |some a =>
        refine run_firstCells_some _ n es.length a _ _ olds m1.len fun j v hj=>?_
        obtain⟨b,o,ha,hc⟩:=nL j v hj;cases ha;rw[vR];exact hc
      rw[zOU (olds:=olds) (news:=vs) (ty:=ty) (z:=z) hu hi hz me nK hb kc hl qc (nj _ fun _ _=>rfl) (by omega)];have mP:=zGm w (es.length+(e::new).length) es.length elem;have hY:∀x ∈ es++e::new,x.length=n:=fun x hx=>by
       rcases List.mem_append.1 hx with hx|hx
       ·exact mi x hx
       exact ku x hx
      have ki:=m1.append mi ku hf;have:=zMD (nid:=nid) (s:=n) (cap:=grownCap w (es.length+(e::new).length) es.length elem) (es:=es++e::new)
       (c:=olds.toArray++vs.toArray++Builtin.zeroCells z.cells (grownCap w (es.length+(e::new).length) es.length elem - (es.length+(e::new).length))) (ty:=elem) (fr:=(0,0)) (hn ⟨_,.head _⟩) (hg ⟨_,.head _⟩) h
       (w':=w.drew.alloc (.cells (olds.toArray++vs.toArray++Builtin.zeroCells z.cells (grownCap w (es.length+(e::new).length) es.length elem - (es.length+(e::new).length))) elem)) rfl
       (zA7 _) hY (by rw[List.length_append];exact mP)
       (by
        simp only[Array.size_append,List.size_toArray,size_zeroCells,m1.len,hf.len,qb,me];rw[← Nat.add_mul,← Nat.add_mul];congr 1;omega)
       (ki.cells hY fun k hk=>by
        have qd:k<(olds++vs).length:=by rw[ki.len];exact hk
        rw[Array.getElem?_append_left (by simpa using qd)];simp)
      rw[List.length_append] at this;exact this
    cases ha
   ·rename_i id ver;split at ha
    ·rename_i s0 hA es k9;split at ha
     ·rename_i hh;obtain⟨rfl,rfl,qa,mD,kb⟩:=hh;cases ha;obtain⟨i',z,mN,hb,kc,hz,qb⟩:=zMc mD;rw[hi] at mN;cases mN;have ku:=zN5 qa;obtain⟨hl,vs,hf,nj⟩:=zGo (P:=P) (n:=s0) h m0 hx ku;cases hs with
      |hs _ _ a len cap ho hh =>
       obtain⟨b,s',m2,hd,rfl,hJ,hN⟩:=hh (qW k9);rw[vO k9] at hd;cases hd;obtain⟨o,h9,hH⟩:=h.obj id b m2;rw[k9] at h9;cases h9;obtain⟨⟨c,tc,fr,k1,k2,k3,k4,k5,k6,k7⟩,k8⟩:=hH;have k8:=k8 rfl;have mo:∀es',cur (upd g [(id,.arr s0 (ver+1) false es')]) id=some (ver+1):=fun es'=>by unfold cur;rw[yS,if_pos rfl]
       have mQ:∀es',dims (upd g [(id,.arr s0 (ver+1) false es')]) id=some (s0,es'.length):=fun es'=>by unfold dims;rw[yS,if_pos rfl]
       have nA:∀(γ':G) es',γ'.imm=γ.imm→(∀i,i≠id→γ'.β i=γ.β i∧γ'.sz i=γ.sz i)→Ext γ g γ' (upd g [(id,.arr s0 (ver+1) false es')]):=fun γ' es' rk mq=>by
        refine⟨by rw[rk];exact .refl _,fun i b hb hc=>?_,fun i c hc=>?_⟩
        ·have hI:i≠id:=fun e=>by rw[e,qW k9] at hc;cases hc
         exact⟨by rw[(mq i hI).1];exact hb,by rw[jR hI];exact hc⟩
        by_cases hi:i=id
        ·subst hi;rw[qW k9] at hc;cases hc;exact⟨ver+1,mo es',by omega,fun hh=>by omega⟩
        exact⟨c,by rw[jR hi];exact hc,Nat.le_refl _,fun _=>⟨(mq i hi).1,(mq i hi).2,zBx hi⟩⟩
       have hY:∀x ∈ es++new,x.length=s0:=fun x hx=>by
        rcases List.mem_append.1 hx with hx|hx
        ·exact k5 x hx
        exact ku x hx
       by_cases mt:es.length+new.length≤cap
       ·rw[zO2 (news:=vs) hu hi me nK hl (nj w fun _ _=>rfl) mt];have kv:es.length * s0+vs.length≤c.size:=by
         rw[hf.len,k3,← Nat.add_mul];exact Nat.le_trans (Nat.mul_le_mul_right s0 mt) hN
        have kp:=run_storeCells_cells (P:=P) b (es.length * s0) vs 0 w (fun j hj=>zFV k1 (by omega)) (fun j hj=>zDi k1 k2 (by omega)) hf.one;obtain⟨c',s1,s2,s3,s4,s5⟩:=zA1 b tc fr vs (es.length * s0) w c k1 kv;have e:=nA γ (es++new) rfl (fun _ _=>⟨rfl,rfl⟩);obtain⟨h',f'⟩:=zP5 (w':=w.setCells b (es.length * s0) vs) e h m2 k8 s4 s5
         ⟨⟨c',tc,fr,s1,by rw[s2];exact k2,by rw[s2];exact k3,by rw[s2,List.length_append,Nat.add_mul];rw[hf.len] at kv;exact kv,hY,
          fun i j e t v he ht hv=>by
           have kc:=wA (zQ he) (k:=j+1) (s:=s0) (by have:=zQ ht;rw[hY e (List.mem_of_getElem? he)] at this;omega);rw[s3] at hv
           by_cases mn:i<es.length
           ·rw[List.getElem?_append_left mn] at he;have rl:=wA mn (k:=j+1) (s:=s0) (by have:=zQ ht;rw[k5 e (List.mem_of_getElem? he)] at this;omega);rw[if_neg (by omega)] at hv;exact k6 i j e t v he ht hv
           rw[List.getElem?_append_right (by omega)] at he;obtain⟨v',g1,g2⟩:=hf.val (i - es.length) j e t he ht;have hm:es.length * s0≤i * s0:=Nat.mul_le_mul_right s0 (by omega);have rn:=zQ g1;rw[Nat.sub_mul] at g1 rn;rw[if_pos (by omega)] at hv;have:i * s0+j - es.length * s0=i * s0 - es.length * s0+j:=by omega
           rw[this,g1] at hv;cases hv;exact g2,
          fun hf=>by cases hf⟩,fun _=>k8⟩
        refine⟨.slice (some ⟨b,0,none⟩) (es.length+new.length) cap,w.setCells b (es.length * s0) vs,γ,?_,e,h',?_,f'⟩
        ·simp only[vR,Nat.zero_add];rw[kp];simp only[Nat.add_zero,Result.andThen_ok]
        have:es.length+new.length=(es++new).length:=by simp
        rw[this];refine .hs id (ver+1) _ _ cap ⟨ver+1,mo _,Nat.le_refl _⟩ fun _=>⟨b,s0,m2,mQ _,rfl,by simpa using mt,hN⟩
       obtain⟨a',cap',olds,nv,nw,m1,nL⟩:=zEc (n:=s0) h (x:=.hs id ver) (es:=es) (by simp [elems,k9]) (VR.hs id ver ⟨b,0,none⟩ es.length cap ho hh) k5;cases nv;have qc:(Builtin.firstCells s0 es.length (.slice (some ⟨b,0,none⟩) es.length cap)).run P w.drew=.ok olds.toArray w.drew:=by
        refine run_firstCells_some _ s0 es.length _ _ _ olds m1.len fun j v hj=>?_
        obtain⟨b',o',ha,hc⟩:=nL j v hj;cases ha;rw[vR];exact hc
       rw[zOU (olds:=olds) (news:=vs) (ty:=ty) (z:=z) hu hi hz me nK hb kc hl qc (nj _ fun _ _=>rfl) (by omega)];have mP:=zGm w (es.length+new.length) cap elem;have ki:=m1.append k5 ku hf;generalize hC:olds.toArray++vs.toArray++Builtin.zeroCells z.cells (grownCap w (es.length+new.length) cap elem - (es.length+new.length))=C;have qr:C.size=grownCap w (es.length+new.length) cap elem * s0:=by
        rw[← hC];simp only[Array.size_append,List.size_toArray,size_zeroCells,m1.len,hf.len,qb,me];rw[← Nat.add_mul,← Nat.add_mul];congr 1;omega
       have e:=nA (γ.new id w.heap.size C.size) (es++new) rfl (fun i hi=>by simp [G.new,hi]);obtain⟨h',f'⟩:=zSj (w':=w.drew.alloc (.cells C elem)) (X:=.cells C elem) e h rfl
        ⟨⟨C,elem,(0,0),by
          show (w.heap.push (.cells C elem))[w.heap.size]?=_
          rw[Array.getElem?_push];simp,zA7 _,by simp [G.new],by
          rw[qr,List.length_append];exact Nat.mul_le_mul_right s0 mP,hY,
         ki.cells hY fun k hk=>by
          have qd:k<(olds++vs).length:=by rw[ki.len];exact hk
          rw[← hC,Array.getElem?_append_left (by simpa using qd)];simp,
         fun hf=>by cases hf⟩,fun _ o=>jE h o⟩
       refine⟨_,_,_,rfl,e,h',?_,f'⟩;have:es.length+new.length=(es++new).length:=by simp
       rw[this] at mP ⊢;refine .hs id (ver+1) _ _ _ ⟨ver+1,mo _,Nat.le_refl _⟩ fun _=>⟨w.heap.size,s0,by simp [G.new],mQ _,rfl,mP,?_⟩
       simp [G.new,qr]
     cases ha
    cases ha
   cases ha
  cases ha
 cases ha
def zXk{γ:G}{g:Look}{x:AV}{u:Value}{n:Nat}(hx:lenOf g x=some n)(hv:VR γ g x u):∃a c,u=.slice a n c:=by
 unfold lenOf at hx;split at hx
 ·cases hx;have ht:=hv.of_tree;cases ht;exact⟨_,_,rfl⟩
 ·rename_i id ver;cases hv with
  |hs _ _ a m cap ho hh =>
   split at hx
   ·rename_i s hA frz es hg;split at hx
    ·rename_i hR;cases hx;obtain⟨b,s',hb,hd,_⟩:=hh (by rw[qW hg,hR]);rw[vO hg] at hd;cases hd;exact⟨_,_,rfl⟩
    cases hx
   ·rename_i s hA es hg;split at hx
    ·rename_i hR;cases hx;obtain⟨b,s',hb,hd,_⟩:=hh (by unfold cur;rw[hg];simp [hR]);have rq:dims g id=some (s,es.length):=by unfold dims;rw[hg]
     rw[rq] at hd;cases hd;exact⟨_,_,rfl⟩
    cases hx
   cases hx
 ·cases hx;cases hv;exact⟨_,_,rfl⟩
 cases hx
def zYG {P:Program} {γ:G} {g:Look} {w:World} {t ty:TypeId} {ts:List TypeId} {x:List AV} {us:List Value} {v:AV} {p:Patch} (h:HR γ g w) (hx:VRs γ g x us)
  (hl:xLen P g t x=some (.val v,p)):Good γ g w p v ((Builtin.len_ (t::ts).toArray ty us.toArray).run P w):=by
 unfold xLen at hl;split at hl
 ·rename_i x;obtain⟨u,us',rfl,hu,hr⟩:=hx.cases_cons;have:=hr.nil_inv;subst this;have m3:∀n:Nat,Good γ g w [] (.t (.int .i64 (.ofNat n))) (.ok (goInt n) w):=fun n=>.pure h (.t _ _ (.int _ _))
  split at hl
  ·rename_i n e mu;cases hl;simp [Builtin.len_,yQ mu];exact m3 n
  ·rename_i s mu;cases hl;obtain⟨rfl,_⟩:=hu.of_tree.str_inv;simp [Builtin.len_,yQ mu,zAb];exact m3 _
  ·rename_i e mu;split at hl
   ·rename_i n hn;cases hl;obtain⟨a,c,rfl⟩:=zXk hn hu;simp [Builtin.len_,yQ mu];exact m3 n
   cases hl
  cases hl
 cases hl
def zEV{P:Program}{γ:G}{g:Look}{w:World}(lt:Bool):∀ {xs:List AV} {x:AV} {us:List Value} {u:Value} {v:AV},HR γ g w→VR γ g x u→VRs γ g xs us→qQ lt x xs=some v →
  Good γ g w [] v ((us.foldlM (if lt then Builtin.min2 else Builtin.max2) u).run P w)
 |[],x,us,u,v,h,hx,ky,hm=>by
  have:=ky.nil_inv;subst this;simp [qQ] at hm;subst hm;exact .pure h hx
 |y::xs,x,us,u,v,h,hx,ky,hm=>by
  obtain⟨u',us',rfl,hu,hr⟩:=ky.cases_cons;unfold qQ at hm;split at hm
  ·rename_i hW;cases hW
  ·rename_i k a k' b hE hW;cases hW;split at hm
   ·rename_i hk;subst hk;have h1:=hx.of_tree;have h2:=hu.of_tree;cases h1;cases h2;simp only[List.foldlM_cons,Sem.run_bind];cases lt with
    |true =>
     have:(Builtin.min2 (.int k a) (.int k b)).run P w=.ok (.int k (if b<a then b else a)) w:=rfl;simp only[if_true,this,Result.andThen_ok];exact zEV true h (.t _ _ (by simpa using TR.int k _)) hr hm
    |false =>
     have:(Builtin.max2 (.int k a) (.int k b)).run P w=.ok (.int k (if b > a then b else a)) w:=rfl;simp only[Bool.false_eq_true,if_false,this,Result.andThen_ok];exact zEV false h (.t _ _ (by simpa using TR.int k _)) hr hm
   cases hm
  cases hm
def zIB:∀ {es:List (List Tree)} {bs:List Nat},zDG es=some bs→∃ns:List Int,es=ns.map (fun n=>[.int .u8 n])∧bs=ns.map fun n=>n.toNat % 256
 |[],bs,h=>by simp [zDG] at h;subst h;exact⟨[],rfl,rfl⟩
 |e::es,bs,h=>by
  unfold zDG at h;split at h
  ·rename_i hW;cases hW
  ·rename_i n es' hW;cases hW;split at h
   ·rename_i bs' hb;cases h;obtain⟨ns,h1,h2⟩:=zIB hb;exact⟨n::ns,by rw[h1];rfl,by rw[h2];rfl⟩
   cases h
  cases h
def zM0{I:Imm}{ns:List Int}{vs:List Value}(h:Flat I 1 (ns.map fun n=>[Tree.int .u8 n]) vs):vs=ns.map fun n=>Value.int .u8 n:=by
 apply List.ext_getElem?;intro i;have hl:=h.len;simp at hl
 by_cases hi:i<ns.length
 ·obtain⟨v,h1,h2,_⟩:=h.val i 0 [.int .u8 ns[i]] (.int .u8 ns[i]) (by simp [hi]) rfl;cases h2;simp at h1;rw[h1];simp [hi]
 rw[List.getElem?_eq_none (by omega),List.getElem?_eq_none (by simp;omega)]
def zUU(n:Nat):UInt8.ofNat (n % 256)=UInt8.ofNat n:=by
 apply UInt8.toNat.inj;simp
def zUw(ns:List Int):ns.foldl (fun r n=>r.push (UInt8.ofNat n.toNat)) ByteArray.empty=mkS (ns.map fun n=>n.toNat % 256):=by
 rw[foldl_push_bytes];apply ByteArray.ext;simp [mkS,ByteArray.empty,ByteArray.emptyWithCapacity,Function.comp_def,zUU]
 rfl
def zQd {P:Program} {γ:G} {g:Look} {w:World} {nid:Nat} {src dst:TypeId} {x v:AV} {u:Value} {p:Patch} (h:HR γ g w) (hn:(∃o,(nid,o) ∈ p)→γ.β nid=none) (hg:(∃o,(nid,o) ∈ p)→g nid=none)
  (hv:VR γ g x u) (hx:convert P g nid src dst x=some (.val v,p)):Good γ g w p v ((Go.convert src dst u).run P w):=by
 unfold convert at hx;split at hx
 ·rename_i d k k' n hs hd;cases hx;have ht:=hv.of_tree;cases ht;have:(Go.convert src dst (.int k' n)).run P w=.ok (.int k (k.wrap n)) w:=by
   simp [Go.convert,yQ hs,yQ hd,Conv.intToInt]
  rw[this];exact .pure h (.t _ _ (.int _ _))
 ·rename_i d s hs hd;cases hx;obtain⟨rfl,hb⟩:=hv.of_tree.str_inv;have:(Go.convert src dst (.string (mkS s))).run P w=.ok (.string (mkS s)) w:=by
   simp [Go.convert,yQ hs,yQ hd]
  rw[this];exact .pure h (.t _ _ (.mkS hb))
 ·rename_i e s hs hd;split at hx
  ·rename_i he;cases hx;obtain⟨rfl,hb⟩:=hv.of_tree.str_inv;rw[run_bytes_of_string w src dst e (mkS s) (vD hs) (vD hd) (vD he)];have mP:=zGm w (mkS s).size 0 e;rw[zAb] at mP ⊢;have hC:bytesRow (mkS s) (grownCap w s.length 0 e)=(s.map fun b:Nat=>Value.int .u8 (b:Int)).toArray++Array.replicate (grownCap w s.length 0 e - s.length) (.int .u8 0):=by
    unfold bytesRow;rw[zM6 hb,zAb]
   have hL:s.length=(byteCells s).length:=by simp [byteCells]
   have:=zMD (nid:=nid) (s:=1) (cap:=grownCap w s.length 0 e) (es:=byteCells s) (c:=bytesRow (mkS s) (grownCap w s.length 0 e)) (ty:=e)
    (fr:=((bytesRow (mkS s) (grownCap w s.length 0 e)).size,(bytesRow (mkS s) (grownCap w s.length 0 e)).size+1)) (hn ⟨_,.head _⟩) (hg ⟨_,.head _⟩) h
    (w':=w.drew.alloc (.cells (bytesRow (mkS s) (grownCap w s.length 0 e)) e ((bytesRow (mkS s) (grownCap w s.length 0 e)).size,(bytesRow (mkS s) (grownCap w s.length 0 e)).size+1))) rfl
    (fun i hi hh=>by omega) (zCp s) (by rw[← hL];exact mP) (by rw[hC];simp;omega)
    ((zMn γ.imm s).cells (zCp s) fun k hk=>by
     rw[hC,Array.getElem?_append_left (by simpa [byteCells] using hk)];simp)
   rw[← hL] at this;exact this
  cases hx
 ·rename_i e hs hd rr;split at hx
  ·rename_i he;split at hx
   ·rename_i es mi;split at hx
    ·rename_i bs nY;cases hx;obtain⟨ns,rfl,rfl⟩:=zIB nY;have hb:∀b ∈ ns.map (fun n:Int=>n.toNat % 256),b<256:=fun b n5=>by
      obtain⟨n,_,rfl⟩:=List.mem_map.1 n5;exact Nat.mod_lt _ (by decide)
     obtain⟨a,cap,vs,rfl,hJ,hf,hc⟩:=zEc (n:=1) h mi hv (fun e he=>by obtain⟨b,_,rfl⟩:=List.mem_map.1 he;rfl);have mb:=zM0 hf;have hM:Good γ g w [] (.t (.str (ns.map fun n=>n.toNat % 256))) (.ok (.string (mkS (ns.map fun n=>n.toNat % 256))) w):=.pure h (.t _ _ (.mkS hb));cases a with
     |none =>
      have:vs=[]:=by
       cases vs with
       |nil=>rfl
       |cons v vs=>obtain⟨b,o,hh,_⟩:=hc 0 v rfl;cases hh
      rw[this] at mb;have qe:ns=[]:=by simpa using mb.symm
      subst qe;rw[run_convert_bytes_nil w src e (vD hs) (vD he) _ _ dst (vD hd)];exact hM
     |some a =>
      rw[run_convert_bytes_string w src dst e _ _ _ (vD hs) (vD he) (vD hd)];have hl:=run_loadCells_list (P:=P) w a vs (fun j v hj=>by
       obtain⟨b,o,ha,n6⟩:=hc j v hj;cases ha;rw[vR];exact n6)
      rw[run_bytesToString w a _ cap ns (by
       have e1:(ns.map fun n=>[Tree.int .u8 n]).length=vs.length:=by rw[mb];simp
       rw[e1,hl,mb]),zUw]
      exact hM
    cases hx
   cases hx
  cases hx
 cases hx
def zVA {P:Program} {γ:G} {g:Look} {w:World} {nid:Nat} {t:TypeId} {x v:AV} {u:Value} {p:Patch} (h:HR γ g w) (hn:γ.β nid=none) (hg:g nid=none)
  (hv:VR γ g x u) (hx:zGz P nid t x=some (.val v,p)):Good γ g w p v ((Instr.range t u).run P w):=by
 unfold zGz at hx;split at hx
 ·rename_i s hu;cases hx;obtain⟨rfl,hb⟩:=hv.of_tree.str_inv;have hD:(Instr.range t (.string (mkS s))).run P w=.ok (.pointer (some ⟨w.heap.size,0,none⟩)) (w.alloc (.stringIter (mkS s) 0)):=by
   simp [Instr.range,yQ hu]
  rw[hD];obtain⟨h1,h2,h3⟩:=zCH (n:=0) (w':=w.alloc (.stringIter (mkS s) 0)) (o:=.siter s 0) (X:=.stringIter (mkS s) 0) hn hg h rfl
   ⟨by show (w.heap.push (.stringIter (mkS s) 0))[w.heap.size]?=_;rw[Array.getElem?_push];simp;rfl,fun o=>jE h o⟩
  refine⟨_,_,_,rfl,h1,h2,.box nid 0 _ (by simp [G.new]) ?_,h3⟩;unfold cur;rw[yS,if_pos rfl]
 cases hx
def zWj {P:Program} {γ:G} {g:Look} {w:World} {t:TypeId} {x v:AV} {u:Value} {p:Patch} (h:HR γ g w) (hv:VR γ g x u)
  (hx:zE8 g x=some (.val v,p)):Good γ g w p v ((Instr.next u true t).run P w):=by
 unfold zE8 at hx;split at hx
 ·rename_i id;split at hx
  ·rename_i s pos hg;cases hv with
   |box _ _ b hb hc =>
    obtain⟨o,ho,hH⟩:=h.obj id b hb;rw[hg] at ho;cases ho;obtain⟨k1,k2⟩:=hH;have m4:b<w.heap.size:=h.lt hb;have kw:(getObj b).run P w=.ok (.stringIter (mkS s) pos) w:=by
     unfold getObj;simp only[Sem.run,k1];rfl
    split at hx
    ·rename_i kb;cases hx;have mF:∀o,(setObj b o).run P w=.ok () { w with heap:=w.heap.setIfInBounds b o }:=fun o=>by
      unfold setObj;simp only[Sem.run,k1]
     have hQ:pos<(mkS s).size:=by rw[zAb];exact kb
     have hD:(Instr.next (.pointer (some ⟨b,0,none⟩)) true t).run P w =
       .ok (.tuple #[.bool true,goInt pos,.int .i32 (Utf8.decode (mkS s) pos).1]) { w with heap:=w.heap.setIfInBounds b (.stringIter (mkS s) (pos+(Utf8.decode (mkS s) pos).2)) }:=by
      simp only[Instr.next,Sem.run_bind,kw,Result.andThen_ok,hQ,if_true,mF,Sem.run_pure]
     rw[hD];have hF:cur (upd g [(id,.siter s (pos+(Utf8.decode (mkS s) pos).2))]) id=cur g id:=by unfold cur;rw[yS,if_pos rfl,hg]
     have hO:dims (upd g [(id,.siter s (pos+(Utf8.decode (mkS s) pos).2))]) id=dims g id:=by unfold dims;rw[yS,if_pos rfl,hg]
     obtain⟨e,hh,f⟩:=zE9 (w':={ w with heap:=w.heap.setIfInBounds b (.stringIter (mkS s) (pos+(Utf8.decode (mkS s) pos).2)) }) (o':=.siter s (pos+(Utf8.decode (mkS s) pos).2)) h hb k2 hF hO
      (fun b' hP=>by rw[Array.getElem?_setIfInBounds,if_neg (fun e=>hP e.symm)]) (by simp)
      ⟨by rw[Array.getElem?_setIfInBounds,if_pos rfl,if_pos m4];rfl,k2⟩
     refine⟨_,_,γ,rfl,e,hh,?_,f⟩;exact .tup _ [.bool true,goInt pos,.int .i32 (Utf8.decode (mkS s) pos).1] rfl fun i c v hc hv=>by
      match i with
      |0=>simp at hc hv;subst hc;subst hv;exact .t _ _ (.bool _)
      |1=>simp at hc hv;subst hc;subst hv;exact .t _ _ (.int _ _)
      |2=>simp at hc hv;subst hc;subst hv;exact .t _ _ (.int _ _)
      |i+3=>simp at hc
    rename_i kb;cases hx;have hQ:¬ pos<(mkS s).size:=by rw[zAb];exact kb
    have hD:(Instr.next (.pointer (some ⟨b,0,none⟩)) true t).run P w=.ok (.tuple #[.bool false]) w:=by
     simp only[Instr.next,Sem.run_bind,kw,Result.andThen_ok,hQ,if_false,Sem.run_pure]
    rw[hD];exact .pure h (.tup _ [.bool false] rfl fun i c v hc hv=>by
     match i with
     |0=>simp at hc hv;subst hc;subst hv;exact .t _ _ (.bool _)
     |i+1=>simp at hc)
  cases hx
 cases hx
def zUu {P:Program} {γ:G} {g:Look} {w:World} {t:TypeId} {x v:AV} {u:Value} {p:Patch} (h:HR γ g w) (hv:VR γ g x u) (hx:zBw P t x=some (.val v,p)) :
  Good γ g w p v ((Instr.makeInterface t u).run P w):=by
 unfold zBw at hx;split at hx
 ·cases hx
 ·rename_i d hI hu;have run:(Instr.makeInterface t u).run P w=.ok (.iface t u) w:=by
   unfold Instr.makeInterface;simp only[Sem.run_bind,yQ hu,Result.andThen_ok];cases d<;>first|rfl|exact(hI _ rfl).elim
  unfold ret at hx;split at hx
  ·cases hx;rw[run];exact .pure h (.t _ _ (.ifc t _ _ hv.of_tree))
  ·cases hx;rw[run];exact .pure h (.ifv t _ _ hv)
  ·cases hx;rw[run];exact .pure h (.ifv t _ _ hv)
  cases hx
 cases hx
def zNW{P:Program}{γ:G}{g:Look}{w:World}{t:TypeId}{z:AV}(h:zBI P t=some z):∃u,(zeroValue t).run P w=.ok u w∧VR γ g z u:=by
 unfold zBI at h;split at h
 ·rename_i i hi;split at h
  ·rename_i u hu;cases h;exact⟨u,zFo (zDA hi) hu,zPD u⟩
  cases h
 cases h
theorem VR.tup2{γ:G}{g:Look}{x y:AV}{u v:Value}(hx:VR γ g x u)(hy:VR γ g y v):VR γ g (.tup [x,y]) (.tuple #[u,v]) :=
 .tup _ [u,v] rfl (VRs.cons hx (VRs.cons hy .nil)).2
def zRH {P:Program} {γ:G} {g:Look} {w:World} {xt t:TypeId} {x v:AV} {ok:Bool} {u:Value} {p:Patch} (h:HR γ g w) (hv:VR γ g x u) (hx:kT P x t ok=some (.val v,p)) :
  Good γ g w p v ((Instr.typeAssert u xt t ok).run P w):=by
 unfold kT at hx;split at hx
 ·cases hx
 ·rename_i d hI hu;have fails:∀ {z:AV},zBI P t=some z→(match d with|.interface _=>False|_=>True)→∀st dy ms,∃zz,VR γ g z zz∧((if true=true then (do pure (.tuple #[← zeroValue t,.bool false])) else runtimePanic (.typeAssertion st dy t ms):Sem Value)).run P w=.ok (.tuple #[zz,.bool false]) w:=fun hz _ st dy ms=>by
   obtain⟨zz,h1,h2⟩:=zNW (γ:=γ) (g:=g) (w:=w) hz;exact⟨zz,h2,by simp only[if_true,Sem.run_bind,h1,Result.andThen_ok,Sem.run_pure]⟩
  split at hx
  ·rename_i s y;obtain⟨yv,rfl,nB⟩:∃yv,u=.iface s yv∧TR γ.imm y yv:=by
    have:=hv.of_tree;cases this with
    |ifc _ _ v hh=>exact⟨v,rfl,hh⟩
   have hD : (Instr.typeAssert (.iface s yv) xt t ok).run P w = (if s = t then pure (if ok then .tuple #[yv, .bool true] else yv) else (if ok then (do pure (.tuple #[← zeroValue t, .bool false])) else runtimePanic (.typeAssertion (some xt) (some s) t "")) : Sem Value).run P w := by
    unfold Instr.typeAssert;simp only[Sem.run_bind,yQ hu,Result.andThen_ok]
    all_goals (cases d<;>first|exact(hI _ rfl).elim|(by_cases kp:s=t<;>simp [kp]))
   rw[hD];split at hx
   ·rename_i hb;have:=Nat.eq_of_beq_eq_true hb;subst this;unfold ret at hx;cases hx;simp only[if_true,Sem.run_pure];exact .pure h (.tup2 (.t _ _ nB) (.t _ _ (.bool _)))
   ·rename_i hb;have:=Nat.eq_of_beq_eq_true hb;subst this;unfold ret at hx;cases hx;rw[if_pos rfl];exact .pure h (.t _ _ nB)
   ·rename_i hb;have m5:=Nat.ne_of_beq_eq_false hb;rw[if_neg m5];split at hx
    ·rename_i z hz;unfold ret at hx;cases hx
     obtain ⟨zz, h1, h2⟩ := fails hz (by cases d <;> first | trivial | exact (hI _ rfl).elim) (some xt) (some s) ""
     rw[h2];exact .pure h (.tup2 h1 (.t _ _ (.bool _)))
    cases hx
   cases hx
  ·have rt:u=.nilIface:=by
    have:=hv.of_tree;cases this;rfl
   subst rt;split at hx
   ·split at hx
    ·rename_i z hz;unfold ret at hx;cases hx
     obtain ⟨zz, h1, h2⟩ := fails hz (by cases d <;> first | trivial | exact (hI _ rfl).elim) (some xt) none ""
     have hD:(Instr.typeAssert .nilIface xt t true).run P w=.ok (.tuple #[zz,.bool false]) w:=by
      rw[← h2];unfold Instr.typeAssert;simp only[Sem.run_bind,yQ hu,Result.andThen_ok]
      all_goals (cases d<;>first|exact(hI _ rfl).elim|rfl)
     rw[hD];exact .pure h (.tup2 h1 (.t _ _ (.bool _)))
    cases hx
   cases hx
  ·rename_i s y;obtain⟨yv,rfl,nB⟩:∃yv,u=.iface s yv∧VR γ g y yv:=by
    cases hv with
    |ifv _ _ v hh=>exact⟨v,rfl,hh⟩
   have hD : (Instr.typeAssert (.iface s yv) xt t ok).run P w = (if s = t then pure (if ok then .tuple #[yv, .bool true] else yv) else (if ok then (do pure (.tuple #[← zeroValue t, .bool false])) else runtimePanic (.typeAssertion (some xt) (some s) t "")) : Sem Value).run P w := by
    unfold Instr.typeAssert;simp only[Sem.run_bind,yQ hu,Result.andThen_ok]
    all_goals (cases d<;>first|exact(hI _ rfl).elim|(by_cases kp:s=t<;>simp [kp]))
   rw[hD];split at hx
   ·rename_i hb;have:=Nat.eq_of_beq_eq_true hb;subst this;unfold ret at hx;cases hx;simp only[if_true,Sem.run_pure];exact .pure h (.tup2 nB (.t _ _ (.bool _)))
   ·rename_i hb;have:=Nat.eq_of_beq_eq_true hb;subst this;unfold ret at hx;cases hx;rw[if_pos rfl];exact .pure h nB
   ·rename_i hb;have m5:=Nat.ne_of_beq_eq_false hb;rw[if_neg m5];split at hx
    ·rename_i z hz;unfold ret at hx;cases hx
     obtain ⟨zz, h1, h2⟩ := fails hz (by cases d <;> first | trivial | exact (hI _ rfl).elim) (some xt) (some s) ""
     rw[h2];exact .pure h (.tup2 h1 (.t _ _ (.bool _)))
    cases hx
   cases hx
  cases hx
 cases hx
def zA9{γ:G}{g:Look}{x:AV}{u:Value}{b:Bool}(hv:VR γ g x u)(h:zCu x=some b):(b=true∧u=.nilIface)∨(b=false∧∃t v,u=.iface t v):=by
 unfold zCu at h;split at h<;>cases h
 ·cases hv with|t _ _ ht=>cases ht;exact .inl ⟨rfl,rfl⟩
 ·cases hv with|t _ _ ht=>cases ht;exact .inr ⟨rfl,_,_,rfl⟩
 ·cases hv;exact .inr ⟨rfl,_,_,rfl⟩
 cases hv;exact .inr ⟨rfl,_,_,rfl⟩
def zIV{P:Program}{t:TypeId}(h:zD6 P t=true):∃ms,P.underlying t=some (.interface ms):=by
 unfold zD6 at h;split at h
 ·rename_i ms hu;exact⟨ms,vD hu⟩
 cases h
def zNx {P:Program} {γ:G} {g:Look} {w:World} {t:TypeId} {x y:AV} {ux uy:Value} {b:Bool} (ox oy:Operand) (hx:VR γ g x ux) (hy:VR γ g y uy) (h:zD4 P t (uY ox||uY oy) x y=some b) :
  (Op.equal t ux uy).run P w=.ok b w∧(∀(op:BinOp),(eqGuard op t ox oy ux uy).run P w=.ok () w) ∧
   Go.binOp .eql t ux uy=(do pure (.bool (← Op.equal t ux uy)))∧Go.binOp .neq t ux uy=(do pure (.bool (!(← Op.equal t ux uy)))):=by
 unfold zD4 at h;split at h
 ·rename_i hi h1 h2;obtain⟨ms,hu⟩:=zIV hi;obtain⟨_,rfl⟩|⟨h0,_⟩:=zA9 hx h1
  ·obtain⟨_,rfl⟩|⟨h0,_⟩:=zA9 hy h2
   ·cases hc:(uY ox||uY oy) with
    |false=>rw[hc] at h;cases h
    |true =>
     rw[hc] at h;cases h;refine⟨by(show (Op.equalIn (9999+1) t _ _).run P w=_);generalize 9999=d;simp [Op.equalIn,underlying,hu],fun op=>?_,rfl,rfl⟩;unfold eqGuard;cases ox<;>cases oy<;>first|(simp [uY] at hc;done)|(cases op<;>rfl)
   cases h0
  cases h0
 ·rename_i hi h1 h2;obtain⟨ms,hu⟩:=zIV hi;cases h;obtain⟨_,rfl⟩|⟨h0,_⟩:=zA9 hx h1
  ·obtain⟨h0,_⟩|⟨_,s,v,rfl⟩:=zA9 hy h2
   ·cases h0
   refine⟨by(show (Op.equalIn (9999+1) t _ _).run P w=_);generalize 9999=d;simp [Op.equalIn,underlying,hu],fun op=>?_,rfl,rfl⟩;unfold eqGuard;cases op<;>rfl
  cases h0
 ·rename_i hi h1 h2;obtain⟨ms,hu⟩:=zIV hi;cases h;obtain⟨h0,_⟩|⟨_,s,v,rfl⟩:=zA9 hx h1
  ·cases h0
  obtain⟨_,rfl⟩|⟨h0,_⟩:=zA9 hy h2
  ·refine⟨by(show (Op.equalIn (9999+1) t _ _).run P w=_);generalize 9999=d;simp [Op.equalIn,underlying,hu],fun op=>?_,rfl,rfl⟩;unfold eqGuard;cases op<;>rfl
  cases h0
 cases h
def zSo {P:Program} {γ:G} {g:Look} {w:World} {op:BinOp} {t:TypeId} {x y v:AV} {ux uy:Value} (ox oy:Operand) (h:HR γ g w) (hx:VR γ g x ux) (hy:VR γ g y uy)
  (hb:zCe P op t (uY ox||uY oy) x y=some v):Good γ g w [] v ((do eqGuard op t ox oy ux uy;Go.binOp op t ux uy:Sem Value).run P w):=by
 unfold zCe at hb;split at hb
 ·exact zVU ox oy h hx hy hb
 split at hb
 ·rename_i b hn;cases hb;obtain⟨h1,h2,h3,h4⟩:=zNx (w:=w) ox oy hx hy hn;rw[Sem.run_bind,h2,Result.andThen_ok,h3];simp only[Sem.run_bind,h1,Result.andThen_ok,Sem.run_pure];exact .pure h (.t _ _ (.bool _))
 ·rename_i b hn;cases hb;obtain⟨h1,h2,h3,h4⟩:=zNx (w:=w) ox oy hx hy hn;rw[Sem.run_bind,h2,Result.andThen_ok,h4];simp only[Sem.run_bind,h1,Result.andThen_ok,Sem.run_pure];exact .pure h (.t _ _ (.bool _))
 cases hb
def zLp{x:AV}{qs:Out}{p:Patch}(hx:zBB x=some (qs,p)):∃t v,x=.t (.ifc t v)∧qs=.pan x∧p=[]:=by
 unfold zBB at hx;split at hx
 ·cases hx;exact⟨_,_,rfl,rfl,rfl⟩
 cases hx
def zNj{P:Program}{γ:G}{g:Look}{w:World}{t:TypeId}{v:Tree}{u:Value}(hv:VR γ g (.t (.ifc t v)) u):(Instr.panic u).run P w=.halt (.panic u) w:=by
 have:=hv.of_tree;cases this with
 |ifc _ _ v hh=>rfl
def zH0(x y:ByteArray):(x==y)=decide (x=y):=by
 cases x with|mk x=>cases y with|mk y =>
 show (x==y)=_
 by_cases h:x=y
 ·subst h;simp
 simp [h]
def zJ0{I:Imm}{kd:TypeDesc}{k k':Tree}{v v':Value}{b:Bool}(h:kQ kd k k'=some b)(hk:TR I k v)(m6:TR I k' v'):Instr.sameNow kd v v'=some b:=by
 unfold kQ at h;split at h
 ·cases hk;cases m6;split at h
  ·rename_i he;subst he;cases h;simp [Instr.sameNow]
  cases h
 ·rename_i a c;obtain⟨rfl,ha⟩:=hk.str_inv;obtain⟨rfl,hc⟩:=m6.str_inv;cases h;have e:=zMI ha hc;simp only[Instr.sameNow];rw[← e]
  congr 1
  by_cases hh:a=c
  ·subst hh;have h1:(mkS a==mkS a)=true:=by
    rw[zH0];exact decide_eq_true rfl
   rw[h1];simp
  have h1:mkS a≠mkS c:=fun he=>by
   have:=congrArg ByteArray.toList he;have h2:=wV a c;rw[← e,this] at h2;simp [hh] at h2
  have h2:(mkS a==mkS c)=false:=by
   rw[zH0];exact decide_eq_false h1
  rw[h2,e,wV];simp [hh]
 ·cases hk;cases m6;cases h;simp [Instr.sameNow]
 cases h
def zNm{γ:G}{g:Look}{kd:TypeDesc}{k:Tree}{v:Value}(hk:TR γ.imm k v):∀ {es:List (Tree×AV)} {xs:List MapEntry} {i:Nat} {r:Option (Nat×AV)},es.length=xs.length →
  (∀(j:Nat) e x,es[j]?=some e→xs[j]?=some x→ERel γ g e x)→mfind kd k es i=some r →
  ∃r',Instr.findNow kd v xs i=some r'∧(match r,r' with
   |none,none=>True
   |some (j,a),some (j',u)=>j'=j∧i≤j∧VR γ g a u∧∃e x,es[j - i]?=some e∧xs[j - i]?=some x∧kQ kd k e.1=some true
   |_,_=>False)
 |[],xs,i,r,hl,_,h=>by
  cases xs with
  |nil=>simp only[mfind,Option.some.injEq] at h;subst h;exact⟨none,rfl,trivial⟩
  |cons _ _=>cases hl
 |e::es,xs,i,r,hl,hr,h=>by
  cases xs with
  |nil=>cases hl
  |cons x xs =>
   have h0:=hr 0 e x rfl rfl;have nC:∀(j:Nat) e x,es[j]?=some e→xs[j]?=some x→ERel γ g e x:=fun j e' x' he hx=>hr (j+1) e' x' (by simpa using he) (by simpa using hx)
   unfold mfind at h;unfold Instr.findNow;split at h
   ·rename_i hs;cases h;rw[zJ0 hs hk h0.1];exact⟨_,rfl,rfl,Nat.le_refl _,h0.2,e,x,by simp,by simp,hs⟩
   ·rename_i hs;rw[zJ0 hs hk h0.1];obtain⟨r',h1,h2⟩:=zNm hk (by simpa using hl) nC h;refine⟨r',h1,?_⟩
    match r,r',h2 with
    |none,none,_=>trivial
    |some (j,a),some (j',u),⟨a1,a2,a3,e',x',a4,a5,a6⟩ =>
     refine⟨a1,by omega,a3,e',x',?_,?_,a6⟩
     ·have:j - i=(j - (i+1))+1:=by omega
      rw[this];simpa using a4
     have:j - i=(j - (i+1))+1:=by omega
     rw[this];simpa using a5
   cases h
def zGu {P:Program} {γ:G} {g:Look} {w:World} {kt:TypeId} {kd:TypeDesc} {k:Tree} {v:Value} (hu:und P kt=some kd) (hk:TR γ.imm k v) {es:List (Tree×AV)} {xs:Array MapEntry} {r:Option (Nat×AV)}
  (hl:xs.size=es.length) (hr:∀(j:Nat) e x,es[j]?=some e→xs[j]?=some x→ERel γ g e x) (h:mfind kd k es 0=some r) :
  ∃r',(Instr.findKey kt v xs.toList).run P w=.ok r' w∧(match r,r' with
   |none,none=>True
   |some (j,a),some (j',u)=>j'=j∧VR γ g a u∧∃e x,es[j]?=some e∧xs[j]?=some x∧kQ kd k e.1=some true
   |_,_=>False):=by
 obtain⟨r',h1,h2⟩:=zNm (g:=g) hk (xs:=xs.toList) (i:=0) (by simpa using hl.symm) (fun j e x he hx=>hr j e x he (by simpa using hx)) h;refine⟨r',?_,?_⟩
 ·unfold Instr.findKey;simp only[Sem.run_bind,yQ hu,Result.andThen_ok,h1,Sem.run_pure]
 match r,r',h2 with
 |none,none,_=>trivial
 |some (j,a),some (j',u),⟨a1,_,a3,e',x',a4,a5,a6⟩=>exact⟨a1,a3,e',x',by simpa using a4,by simpa using a5,a6⟩
def zFw {P:Program} {I:Imm} {w:World} {kt:TypeId} {kd:TypeDesc} {k:Tree} {v:Value} (hu:und P kt=some kd) (hk:TR I k v) (ma:zAP kd k=true) (b:Bool) :
  (Instr.checkKey b 10000 kt v).run P w=.ok () w:=by
 show (Instr.checkKey b (9999+1) kt v).run P w=_
 generalize 9999=d;unfold Instr.checkKey;simp only[Sem.run_bind,yQ hu,Result.andThen_ok];unfold zAP at ma;split at ma<;>first|(cases ma;done)|skip
 ·cases hk;rfl
 ·obtain⟨rfl,_⟩:=hk.str_inv;rfl
 cases hk;rfl
def zIJ {γ:G} {g:Look} {w:World} {x:AV} {u:Value} {es:List (Tree×AV)} (h:HR γ g w) (hv:VR γ g x u) (hx:vT g x=some es) :
  (u=.map none∧es=[])∨∃id b xs clock,x=.mp id∧g id=some (.map es)∧γ.β id=some b∧cur g id=none∧u=.map (some b)∧w.heap[b]?=some (.map xs clock)∧xs.size=es.length ∧
   (∀(j:Nat) e x,es[j]?=some e→xs[j]?=some x→ERel γ g e x)∧∀o,γ.imm b o=none:=by
 unfold vT at hx;split at hx
 ·cases hx;have:=hv.of_tree;cases this;exact .inl ⟨rfl,rfl⟩
 ·rename_i id;split at hx
  ·rename_i es' hg;cases hx;cases hv with
   |mp _ b hb hc =>
    obtain⟨o,ho,hH⟩:=h.obj id b hb;rw[hg] at ho;cases ho;obtain⟨⟨xs,clock,h1,h2,h3⟩,h4⟩:=hH;exact .inr ⟨id,b,xs,clock,rfl,hg,hb,hc,rfl,h1,h2,h3,h4⟩
  cases hx
 cases hx
def zSe {P:Program} {γ:G} {g:Look} {w:World} {t:TypeId} {x i v:AV} {ok:Bool} {u ui:Value} {p:Patch} (h:HR γ g w) (hv:VR γ g x u) (hi:VR γ g i ui)
  (hx:qV P g t x i ok=some (.val v,p)):Good γ g w p v ((Instr.lookup t u ui ok).run P w):=by
 unfold qV at hx;split at hx
 ·rename_i key elem es k mu mi;have hk:=hi.of_tree;split at hx
  ·rename_i kd m7
   -- what is found
   have main:∀(xs:Array MapEntry) (r:Option (Nat×AV)),xs.size=es.length→(∀(j:Nat) e x,es[j]?=some e→xs[j]?=some x→ERel γ g e x) →
     zAP kd k=true→mfind kd k es 0=some r→(match r with
      |some (_,a)=>ret (match (generalizing:=false) ok with
       |true=>.tup [a,.t (.bool true)]
       |false=>a)
      |none=>match zBI P elem with
       |some z=>ret (match (generalizing:=false) ok with
        |true=>.tup [z,.t (.bool false)]
        |false=>z)
       |none=>none)=some (.val v,p) →
     Good γ g w p v ((do
      Instr.checkKey xs.isEmpty 10000 key ui
      let (v,ok') ← match ← Instr.findKey key ui xs.toList with
       |some (_,v)=>pure (v,true)
       |none=>pure (← zeroValue elem,false)
      pure (if ok then .tuple #[v,.bool ok'] else v):Sem Value).run P w):=by
    intro xs r hl hr ma hf hZ;obtain⟨r',h1,h2⟩:=zGu (w:=w) m7 hk hl hr hf;simp only[Sem.run_bind,zFw m7 hk ma,Result.andThen_ok,h1];cases r with
    |none =>
     cases r' with
     |some _=>exact h2.elim
     |none =>
      simp only at hZ ⊢;split at hZ
      ·rename_i z hz;obtain⟨zz,h3,h4⟩:=zNW (γ:=γ) (g:=g) (w:=w) hz;simp only[Sem.run_bind,h3,Result.andThen_ok,Sem.run_pure];unfold ret at hZ;cases ok with
       |true=>cases hZ;exact .pure h (.tup2 h4 (.t _ _ (.bool _)))
       |false=>cases hZ;exact .pure h h4
      cases hZ
    |some ja =>
     cases r' with
     |none=>exact h2.elim
     |some ju =>
      obtain⟨j,a⟩:=ja;obtain⟨j',uv⟩:=ju;obtain⟨_,a3,_⟩:=h2;simp only at hZ ⊢;unfold ret at hZ;cases ok with
      |true=>cases hZ;exact .pure h (.tup2 a3 (.t _ _ (.bool _)))
      |false=>cases hZ;exact .pure h a3
   have fin:∀(xs:Array MapEntry),xs.size=es.length→(∀(j:Nat) e x,es[j]?=some e→xs[j]?=some x→ERel γ g e x) →
     ((Instr.lookup t u ui ok).run P w=((do
      Instr.checkKey xs.isEmpty 10000 key ui
      let (v,ok') ← match ← Instr.findKey key ui xs.toList with
       |some (_,v)=>pure (v,true)
       |none=>pure (← zeroValue elem,false)
      pure (if ok then .tuple #[v,.bool ok'] else v):Sem Value).run P w))→Good γ g w p v ((Instr.lookup t u ui ok).run P w):=fun xs hl hr ky=>by
    rw[ky];split at hx
    ·rename_i j a ma hf;exact main xs _ hl hr ma hf hx
    ·rename_i ma hf;exact main xs _ hl hr ma hf hx
    cases hx
   rcases zIJ h hv mi with ⟨rfl,rfl⟩|⟨id,b,xs,clock,rfl,hg,hb,hc,rfl,h1,h2,h3,h4⟩
   ·refine fin #[] rfl (fun j e x he=>by simp at he) ?_;unfold Instr.lookup;simp only[Sem.run_bind,yQ mu,Result.andThen_ok,Sem.run_pure]
    rfl
   refine fin xs h2 h3 ?_;have kw:(getObj b).run P w=.ok (.map xs clock) w:=by
    unfold getObj;simp only[Sem.run,h1]
   unfold Instr.lookup;simp only[Sem.run_bind,yQ mu,kw,Result.andThen_ok,Sem.run_pure]
   rfl
  cases hx
 cases hx
def zQh{I:Imm}{kd:TypeDesc}{k k':Tree}{v v':Value}(h:kQ kd k k'=some true)(hk:TR I k v)(m6:TR I k' v'):Instr.sameBits 10000 v' v=true:=by
 unfold kQ at h;split at h
 ·cases hk;cases m6;split at h
  ·rename_i he;subst he;have:=Option.some.inj h;simp at this;simp [Instr.sameBits,this]
  cases h
 ·rename_i a c;obtain⟨rfl,ha⟩:=hk.str_inv;obtain⟨rfl,hc⟩:=m6.str_inv;have:=Option.some.inj h;rw[wV] at this;have:=of_decide_eq_true this;subst this;simp only[Instr.sameBits];rw[zH0];exact decide_eq_true rfl
 ·cases hk;cases m6;have:=Option.some.inj h;simp at this;simp [Instr.sameBits,this]
 cases h
def zL1 {P:Program} {γ:G} {g:Look} {w:World} {t:TypeId} {x i y v:AV} {u ui uy:Value} {p:Patch} (h:HR γ g w) (hv:VR γ g x u) (hi:VR γ g i ui) (hy:VR γ g y uy)
  (hx:qA P g t x i y=some (.val v,p)):v=.nov∧zLB γ g w p ((Instr.mapUpdate t u ui uy).run P w):=by
 unfold qA at hx;split at hx
 ·rename_i key elem id k mu;have hk:=hi.of_tree;split at hx
  ·rename_i es hg;obtain⟨b,xs,clock,hb,hc,rfl,h1,h2,h3,h4⟩:∃b xs clock,γ.β id=some b∧cur g id=none∧u=.map (some b)∧w.heap[b]?=some (.map xs clock)∧xs.size=es.length ∧
     (∀(j:Nat) e x,es[j]?=some e→xs[j]?=some x→ERel γ g e x)∧∀o,γ.imm b o=none:=by
    rcases zIJ (es:=es) h hv (by simp only[vT,hg]) with ⟨rfl,_⟩|⟨id',b,xs,clock,he,nE,hb,hc,hu,h1,h2,h3,h4⟩
    ·cases hv
    cases he;exact⟨b,xs,clock,hb,hc,hu,h1,h2,h3,h4⟩
   have m4:b<w.heap.size:=h.lt hb;have kw:(getObj b).run P w=.ok (.map xs clock) w:=by
    unfold getObj;simp only[Sem.run,h1]
   have mF:∀o,(setObj b o).run P w=.ok () { w with heap:=w.heap.setIfInBounds b o }:=fun o=>by
    unfold setObj;simp only[Sem.run,h1]
   -- the map is laid anew
   have lay:∀(es':List (Tree×AV)) (xs':Array MapEntry) (clock':Nat),xs'.size=es'.length→(∀(j:Nat) e x,es'[j]?=some e→xs'[j]?=some x→ERel γ g e x) →
     Ext γ g γ (upd g [(id,.map es')])∧HR γ (upd g [(id,.map es')]) { w with heap:=w.heap.setIfInBounds b (.map xs' clock') }∧Fr γ w γ { w with heap:=w.heap.setIfInBounds b (.map xs' clock') }:=by
    intro es' xs' clock' hl hr;have hF:cur (upd g [(id,.map es')]) id=cur g id:=by unfold cur;rw[yS,if_pos rfl,hg]
    have hO:dims (upd g [(id,.map es')]) id=dims g id:=by unfold dims;rw[yS,if_pos rfl,hg]
    have qt:∀j,cur (upd g [(id,.map es')]) j=cur g j:=fun j=>by
     by_cases hj:j=id
     ·subst hj;exact hF
     exact jR hj
    have rv:∀j,dims (upd g [(id,.map es')]) j=dims g j:=fun j=>by
     by_cases hj:j=id
     ·subst hj;exact hO
     exact zBx hj
    have e:Ext γ g γ (upd g [(id,.map es')]):=⟨.refl _,fun j b hb hV=>⟨hb,by rw[qt];exact hV⟩,fun j c hV=>⟨c,by rw[qt];exact hV,Nat.le_refl _,fun _=>⟨rfl,rfl,rv j⟩⟩⟩
    exact zE9 (w':={ w with heap:=w.heap.setIfInBounds b (.map xs' clock') }) h hb h4 hF hO
     (fun b' hP=>by rw[Array.getElem?_setIfInBounds,if_neg (fun e=>hP e.symm)]) (by simp)
     ⟨⟨xs',clock',by rw[Array.getElem?_setIfInBounds,if_pos rfl,if_pos m4],hl,fun j e' x' he hx=>(hr j e' x' he hx).mono e⟩,h4⟩
   split at hx
   ·rename_i kd m7;split at hx
    ·rename_i j a ma hf;cases hx;refine⟨rfl,?_⟩;obtain⟨r',hD,nM⟩:=zGu (w:=w) m7 hk h2 h3 hf;cases r' with
     |none=>exact nM.elim
     |some ju =>
      obtain⟨j',uv⟩:=ju;obtain⟨rfl,_,e',x',qu,m9,hs⟩:=nM;have kp:(Instr.keyThatStays (((xs[j']?).map (·.key)).getD ui) ui).run P w=.ok ui w:=by
       unfold Instr.keyThatStays;rw[m9];simp only[Option.map_some,Option.getD_some];rw[if_pos (zQh hs hk (h3 j' e' x' qu m9).1)]
       rfl
      obtain⟨e1,e2,e3⟩:=lay (setN es j' (k,y)) (xs.modify j' fun e=>{ e with key:=ui,val:=uy }) clock (by rw[uZ];simp [h2]) (fun i e x he hx=>by
       rw[uZ] at he
       by_cases mG:i=j'
       ·subst mG;have kc:=zQ qu;rw[List.getElem?_set_self kc] at he;cases he;rw[Array.getElem?_modify,if_pos rfl,m9] at hx;simp only[Option.map_some,Option.some.injEq] at hx;subst hx;exact⟨hk,hy⟩
       rw[List.getElem?_set_ne (fun h=>mG h.symm)] at he;rw[Array.getElem?_modify,if_neg (fun h=>mG h.symm)] at hx;exact h3 i e x he hx)
      refine⟨_,γ,?_,e1,e2,e3⟩;unfold Instr.mapUpdate;simp only[Sem.run_bind,yQ mu,kw,Result.andThen_ok,zFw m7 hk ma,hD,kp,mF]
    ·rename_i ma hf;cases hx;refine⟨rfl,?_⟩;obtain⟨r',hD,nM⟩:=zGu (w:=w) m7 hk h2 h3 hf;cases r' with
     |some _=>exact nM.elim
     |none =>
      obtain⟨e1,e2,e3⟩:=lay (es++[(k,y)]) (xs.push { key:=ui,val:=uy,born:=clock }) (clock+1) (by simp [h2]) (fun i e x he hx=>by
       rw[Array.getElem?_push] at hx
       by_cases mG:i=xs.size
       ·rw[if_pos mG] at hx;cases hx;rw[List.getElem?_append_right (by omega)] at he;have:i - es.length=0:=by omega
        rw[this] at he;cases he;exact⟨hk,hy⟩
       rw[if_neg mG] at hx;have kc:i<es.length:=by
        rcases Nat.lt_or_ge i xs.size with h'|h'
        ·omega
        rw[Array.getElem?_eq_none h'] at hx;cases hx
       rw[List.getElem?_append_left kc] at he;exact h3 i e x he hx)
      refine⟨_,γ,?_,e1,e2,e3⟩;unfold Instr.mapUpdate;simp only[Sem.run_bind,yQ mu,kw,Result.andThen_ok,zFw m7 hk ma,hD,mF]
    cases hx
   cases hx
  cases hx
 cases hx
def zQm {P:Program} {γ:G} {g:Look} {w:World} {nid:Nat} (t:TypeId) (h:HR γ g w) (hn:γ.β nid=none) (hg:g nid=none) :
  Good γ g w [(nid,.map [])] (.mp nid) ((Instr.makeMap t none).run P w):=by
 have hD:(Instr.makeMap t none).run P w=.ok (.map (some w.heap.size)) (w.alloc (.map #[] 0)):=by
  simp [Instr.makeMap]
 rw[hD];obtain⟨h1,h2,h3⟩:=zCH (n:=0) (w':=w.alloc (.map #[] 0)) (o:=.map []) (X:=.map #[] 0) hn hg h rfl
  ⟨⟨#[],0,by show (w.heap.push (.map #[] 0))[w.heap.size]?=_;rw[Array.getElem?_push];simp,rfl,fun j e x he=>by simp at he⟩,fun o=>jE h o⟩
 refine⟨_,_,_,rfl,h1,h2,.mp nid _ (by simp [G.new]) ?_,h3⟩;unfold cur;rw[yS,if_pos rfl]
end Go.Ab
