/- Lemmas. -/
import Derived.Test.YtchgjnkleakhoaaGreatDoorG01
import Derived.Deep.Slices
import Derived.ChangeStays
import Derived.ChangeSame
import Derived.ChangeOld
import Derived.OpenShut
import Derived.Lib.IndexMore
import Derived.Lib.Join
import Derived.Lib.Replace
import Derived.Lib.TrimByte
import Derived.Lib.ItoaNum
import Derived.Lib.Bytealg
import Derived.Lib.ParseIntB
set_option maxRecDepth 1000000
set_option maxHeartbeats 40000000
set_option linter.all false
namespace Go.Ab
def zCe(a b:Nat):Nat.blt a b=decide (a<b):=by
 cases h:Nat.blt a b with
 |true=>rw[Nat.blt_eq] at h;simp [h]
 |false =>
  have:¬ a<b:=fun hh=>by rw[← Nat.blt_eq,h] at hh;cases hh
  simp [this]
def vI(a b:Nat):Nat.beq a b=decide (a=b):=by
 cases h:Nat.beq a b with
 |true=>simp [Nat.eq_of_beq_eq_true h]
 |false=>simp [Nat.ne_of_beq_eq_false h]
def xT(v:Value):zLG (pure v)=vG v:=rfl
def qD(C:Cfg)(f:FuncId)(x:Tree)(h:Heap):yU C f 0 (.t x) h=some (.t x,[]):=by
 unfold yU;cases C.thaw f<;>rfl
def qL{α:Type}(l:List α)(n:Nat):idx l (n:Int)=l[n]?:=by
 show nth l n=_
 exact yP l n
def wrap64{x:Int}(h:-9223372036854775808≤x)(h':x<9223372036854775808):IntKind.i64.wrap x=x:=by
 simp only[IntKind.wrap,IntKind.signed,IntKind.bits];simp only[Bool.true_and];split<;>rename_i h1<;>simp at h1<;>omega
section
variable (P:Program) (t:TypeId) (a b:Int)
theorem wI64(n:Nat)(h:n<9223372036854775807):IntKind.i64.wrap ((n:Int)+1)=((n+1:Nat):Int):=by rw[wrap64]<;>omega
theorem kA:binop P .add t (.t (.int .i64 a)) (.t (.int .i64 b))=some (.t (.int .i64 (IntKind.i64.wrap (a+b)))):=rfl
theorem kB:binop P .sub t (.t (.int .i64 a)) (.t (.int .i64 b))=some (.t (.int .i64 (IntKind.i64.wrap (a - b)))):=rfl
theorem kE:binop P .mul t (.t (.int .i64 a)) (.t (.int .i64 b))=some (.t (.int .i64 (IntKind.i64.wrap (a * b)))):=rfl
theorem qU(k:IntKind):binop P .lss t (.t (.int k a)) (.t (.int k b))=some (.t (.bool (decide (a<b)))):=by
 simp [binop,Go.binOp,Op.intCmp,xT,vG]
theorem qZ(k:IntKind):binop P .leq t (.t (.int k a)) (.t (.int k b))=some (.t (.bool (decide (a≤b)))):=by
 simp [binop,Go.binOp,Op.intCmp,xT,vG]
theorem qY(k:IntKind):binop P .gtr t (.t (.int k a)) (.t (.int k b))=some (.t (.bool (decide (a > b)))):=by
 simp [binop,Go.binOp,Op.intCmp,xT,vG]
theorem qW(k:IntKind):binop P .geq t (.t (.int k a)) (.t (.int k b))=some (.t (.bool (decide (a ≥ b)))):=by
 simp [binop,Go.binOp,Op.intCmp,xT,vG]
theorem kC(k:IntKind):binop P .eql t (.t (.int k a)) (.t (.int k b))=some (.t (.bool (a==b))):=by
 simp [binop,Go.binOp,Op.intCmp,xT,vG]
theorem kD(k:IntKind):binop P .neq t (.t (.int k a)) (.t (.int k b))=some (.t (.bool (a != b))):=by
 simp [binop,Go.binOp,Op.intCmp,xT,vG]
theorem qV(x y:List Nat):binop P .eql t (.t (.str x)) (.t (.str y))=some (.t (.bool (beqL x y))):=rfl
theorem qX(x y:List Nat):binop P .neq t (.t (.str x)) (.t (.str y))=some (.t (.bool (!beqL x y))):=rfl
theorem uN(x:Bool):unop .not (.t (.bool x))=some (.t (.bool (!x))):=by
 simp [unop,scal,Op.unary,xT,vG]
theorem uM(x y:Bool)(h:und P t=some .bool):binop P .eql t (.t (.bool x)) (.t (.bool y))=some (.t (.bool (x==y))):=by
 simp only[binop,h]
theorem uL(x y:Bool)(h:und P t=some .bool):binop P .neq t (.t (.bool x)) (.t (.bool y))=some (.t (.bool (!(x==y)))):=by
 simp only[binop,h]
end
def zEJ(P:Program)(eq:TypeId→Tree→Tree→Option Bool)(u off:Nat)(xs ys:List Tree)(rest:Option Bool):Option Bool :=
 match zEc P u xs off,zEc P u ys off with
 |some x,some y=>match eq u x y with
  |some true=>rest
  |some false=>some false
  |none=>none
 |_,_=>none
section
variable (P:Program) (t:TypeId) (d:Nat)
theorem zLr(k:IntKind)(a b:Int)(h:und P t=some (.int k)):equal P (d+1) t (.int k a) (.int k b)=some (a==b):=by
 simp only[equal,h,if_true]
theorem zPh(a b:List Nat)(h:und P t=some .string):equal P (d+1) t (.str a) (.str b)=some (beqL a b):=by
 simp only[equal,h]
theorem zQs(xs ys:List Tree)(h:zBm P 50 t=false):binop P .eql t (.t (.agg xs)) (.t (.agg ys))=(equal P 100 t (.agg xs) (.agg ys)).map fun b=>.t (.bool b):=by
 simp only[binop,h,Bool.false_eq_true,if_false]
theorem zQS(xs ys:List Tree)(h:zBm P 50 t=false):binop P .neq t (.t (.agg xs)) (.t (.agg ys))=(equal P 100 t (.agg xs) (.agg ys)).map fun b=>.t (.bool !b):=by
 simp only[binop,h,Bool.false_eq_true,if_false]
theorem zRA(x:Bool)(r:Bool):(match (some x:Option Bool) with|some true=>some r|some false=>some false|none=>none)=some (x&&r):=by cases x<;>rfl
end
section
variable {C:Cfg} {m k:Nat} {keep:Nat→Option (List Nat)} {st:St} {Q:Ex→St→Prop} {b:Code} {ks:Option (List Nat)} {Inv:Nat→St→Prop} {d:Nat}
theorem uF(h:W C m k keep b st Q):zEm C m k keep b Q .normal st:=h
theorem kK{id:Nat}(h:Q (.exit id) st):zEm C m k keep b Q (.exit id) st:=h
theorem jI(h:Q .ret st):zEm C m k keep b Q .ret st:=h
theorem jP{v:AV}(h:Q (.pan v) st):zEm C m k keep b Q (.pan v) st:=h
theorem uD{id:Nat}(h:Q .normal st):zCi id Q .normal st:=h
theorem jJ{id:Nat}(h:Q .ret st):zCi id Q .ret st:=h
theorem jL{id:Nat}{v:AV}(h:Q (.pan v) st):zCi id Q (.pan v) st:=h
theorem zAz{id:Nat}(h:Q .normal st):zCi id Q (.exit id) st:=by
 show if id=id then Q .normal st else Q (.exit id) st
 rw[if_pos rfl];exact h
theorem zAB{id id':Nat}(hn:Nat.beq id' id=false)(h:Q (.exit id') st):zCi id Q (.exit id') st:=by
 show if id'=id then Q .normal st else Q (.exit id') st
 rw[if_neg (Nat.ne_of_beq_eq_false hn)];exact h
theorem zFb {id:Nat} {ops:Array Oper} {T:Env} {h:Heap} (hd:qF k ops.toList=true) (hr:xH C (Om C) k ops.toList ops.toList st.T st.h=some (none,T,h)) (hq:Q .normal ⟨T,h⟩) :
  W C m k keep (.region id ops false) st Q:=zKi (by simp only[region,hd,hr]) hq
theorem yAp {id:Nat} {ops:Array Oper} {l:List Rec} {T:Env} {h:Heap} (hs:zCD ops.toList=true) (hd:qF k ops.toList=true) (hr:xF C (Om C) ops.toList ops.toList st.T st.h=some (l,T,h))
  (hc:calm (masks ops.toList) (zBf (uB 0 l))=true) (hq:Q .normal ⟨T,h⟩) :
  W C m k keep (.region id ops true) st Q:=zKi (by simp only[region,hd,hs,hr,hc]) hq
end
section
variable {C:Cfg} {m k:Nat} {keep:Nat→Option (List Nat)} {st:St} {Q:Ex→St→Prop} {b:Code}
def again{α:Type}(m k:Nat)(ks:Option (List Nat))(S:α→St)(μ:α→Nat)(P:α→Prop)(a:α)(Q:Ex→St→Prop):Ex→St→Prop
 |.normal,st=>∃a',μ a' < μ a∧P a'∧tidy m k ks st=some (S a')
 |e,st=>Q e st
theorem zY {α:Type} (S:α→St) (μ:α→Nat) (P:α→Prop) (a0:α) (h0:tidy m k (xN keep b) st=some (S a0)) (p0:P a0)
  (step:∀a,P a→W C m k keep b (S a) (again m k (xN keep b) S μ P a Q)):W C m k keep (.loop b) st Q:=by
 refine yFC (fun d st=>∃a,μ a=d∧P a∧st=S a) (μ a0) h0 ⟨a0,rfl,p0,rfl⟩ fun d st1 h=>?_
 obtain⟨a,rfl,hp,rfl⟩:=h;refine(step a hp).mono fun e st2 hq=>?_
 cases e with
 |normal=>obtain⟨a',h1,h2,h3⟩:=hq;exact⟨_,h1,_,h3,a',rfl,h2,rfl⟩
 |exit id=>exact hq
 |ret=>exact hq
 |pan v=>exact hq
variable {α:Type} {ks:Option (List Nat)} {S:α→St} {μ:α→Nat} {P:α→Prop} {a:α}
theorem kH{id:Nat}(h:Q (.exit id) st):again m k ks S μ P a Q (.exit id) st:=h
theorem jO(h:Q .ret st):again m k ks S μ P a Q .ret st:=h
theorem jK{v:AV}(h:Q (.pan v) st):again m k ks S μ P a Q (.pan v) st:=h
theorem zC(a':α)(h1:μ a' < μ a)(h2:P a')(h3:tidy m k ks st=some (S a')):again m k ks S μ P a Q .normal st:=⟨a',h1,h2,h3⟩
end
def Ends'(C:Cfg)(f:FuncId)(fn:Func)(m:Nat)(v':AV)(h':Heap):Ex→St→Prop
 |.normal,st=>yI fn.ntmps st.T=some []∧∃v,results C.P fn st=some v∧yU C f m v st.h=some (v',h')
 |.ret,st=>yI fn.ntmps st.T=some []∧∃v,results C.P fn st=some v∧yU C f m v st.h=some (v',h')
 |_,_=>False
def zK {C:Cfg} {f:FuncId} {fn:Func} {c:Code} {args:List AV} {h:Heap} {v':AV} {h':Heap} (hf:nth C.P.funcs.toList f=some fn) (hb:fn.body=some c)
  (hw:W C h.length fn.ntmps (C.keep f) c ⟨zV 0 args,h⟩ (Ends' C f fn h.length v' h')) (hn:Nat.ble args.length fn.ntmps=true:=by kernel_rfl):Om C f args h=some (.val v',h'):=by
 obtain⟨o,h1,h2,rfl,rfl⟩:=xU (R:=fun o h1=>o=.val v'∧h1=h') hf hb (hw.mono fun e st hq=>by
  cases e with
  |normal=>obtain⟨h0,v,h1,h2⟩:=hq;exact⟨h0,v,h1,v',h',h2,rfl,rfl⟩
  |ret=>obtain⟨h0,v,h1,h2⟩:=hq;exact⟨h0,v,h1,v',h',h2,rfl,rfl⟩
  |exit id=>exact hq
  |pan v=>exact hq.elim) hn
 exact h2
structure Sl (α:Type) where
 nl:Bool
 cl:Bool
 l:List α
def Sl.t{α:Type}(f:α→List Tree)(s:Sl α):Tree:=.sl s.nl s.cl (s.l.map f)
structure Val where
 k:Int
 n:Int
 s:List Nat
 deriving DecidableEq
def Val.c(v:Val):List Tree:=[.int .u8 v.k,.int .i64 v.n,.str v.s]
structure Slot where
 name:List Nat
 kind:Int
def Slot.c(s:Slot):List Tree:=[.str s.name,.int .u8 s.kind]
structure Tpl where
 name:List Nat
 slots:Sl Slot
def Tpl.c(t:Tpl):List Tree:=[.str t.name,t.slots.t Slot.c]
structure Fact where
 id:Int
 tp:Int
 s:Sl Val
def Fact.c(f:Fact):List Tree:=[.int .i64 f.id,.int .i64 f.tp,f.s.t Val.c]
def vQ{α:Type}(f:α→List Tree)(n:Nat)(h:∀a,(f a).length=n)(l:List α):lens n (l.map f)=true:=by
 simp [lens,h]
structure Bind where
 name:List Nat
 v:Val
 deriving DecidableEq
def Bind.c(b:Bind):List Tree:=.str b.name::b.v.c
def intC(n:Int):List Tree:=[.int .i64 n]
structure Node where
 op:Int
 v:Val
 name:List Nat
 kids:Sl Int
 line:Int
 col:Int
def Node.c(x:Node):List Tree:=[.int .u8 x.op,.int .u8 x.v.k,.int .i64 x.v.n,.str x.v.s,.str x.name,x.kids.t intC,.int .i64 x.line,.int .i64 x.col]
structure Test where
 op:Int
 a:Sl Node
 b:Sl Node
 low:Bool
 high:Bool
 kids:Sl Int
 line:Int
 col:Int
def Test.c(x:Test):List Tree:=[.int .u8 x.op,x.a.t Node.c,x.b.t Node.c,.bool x.low,.bool x.high,x.kids.t intC,.int .i64 x.line,.int .i64 x.col]
structure STest where
 slot:List Nat
 test:Sl Test
 line:Int
 col:Int
def STest.c(x:STest):List Tree:=[.str x.slot,x.test.t Test.c,.int .i64 x.line,.int .i64 x.col]
structure Pat where
 name:List Nat
 t:List Nat
 slots:Sl STest
 line:Int
 col:Int
def Pat.c(x:Pat):List Tree:=[.str x.name,.str x.t,x.slots.t STest.c,.int .i64 x.line,.int .i64 x.col]
def RW(x:Option (Option AV×Env×Heap))(Q:Option AV→Env→Heap→Prop):Prop:=∃r T h,x=some (r,T,h)∧Q r T h
def RR(x:Option (List Rec×Env×Heap))(Q:List Rec→Env→Heap→Prop):Prop:=∃l T h,x=some (l,T,h)∧Q l T h
def rwQ(Q:Ex→St→Prop):Option AV→Env→Heap→Prop
 |none,T,h=>Q .normal ⟨T,h⟩
 |some v,T,h=>Q (.pan v) ⟨T,h⟩
def one1(C:Cfg)(ρ:Oracle)(k:Nat)(ops:List Oper)(o:Oper)(rest:List Oper)(T:Env)(h:Heap):Option (Option AV×Env×Heap) :=
 match zAG o with
 |some c=>match deferred T c with
  |some d=>match jE k d T with
   |some T'=>xH C ρ k ops rest (putT T' o.dst .nov) h
   |none=>none
  |none=>none
 |none=>match exec1 C ρ (nth h) h.length T o with
  |none=>none
  |some (.pan v,p)=>some (some v,T,patch h p)
  |some (.val v,p)=>xH C ρ k ops rest (putT T o.dst v) (patch h p)
def gdL(b:Option Bool)(C:Cfg)(ρ:Oracle)(k:Nat)(ops:List Oper)(o:Oper)(rest:List Oper)(T:Env)(h:Heap):Option (Option AV×Env×Heap) :=
 match b with
 |none=>none
 |some false=>xH C ρ k ops rest (putT T o.dst .nov) h
 |some true=>one1 C ρ k ops o rest T h
def zCA (C:Cfg) (ρ:Oracle) (k:Nat) (ops:List Oper) (o:Oper) (rest:List Oper) (T:Env) (h:Heap) :
  xH C ρ k ops (o::rest) T h=gdL (wanted ops T o) C ρ k ops o rest T h:=by
 rw[xH];unfold gdL one1;rfl
def zFt(C:Cfg)(ρ:Oracle)(k:Nat)(ops:List Oper)(o:Oper)(rest:List Oper)(T:Env)(h:Heap):gdL (some true) C ρ k ops o rest T h=one1 C ρ k ops o rest T h:=rfl
def zEI(C:Cfg)(ρ:Oracle)(k:Nat)(ops:List Oper)(o:Oper)(rest:List Oper)(T:Env)(h:Heap):gdL (some false) C ρ k ops o rest T h=xH C ρ k ops rest (putT T o.dst .nov) h:=rfl
def zAE(r:Rec)(x:Option (List Rec×Env×Heap)):Option (List Rec×Env×Heap) :=
 match x with
 |none=>none
 |some (l,T,h)=>some (r::l,T,h)
def gdR(b:Option Bool)(C:Cfg)(ρ:Oracle)(ops:List Oper)(o:Oper)(rest:List Oper)(T:Env)(h:Heap):Option (List Rec×Env×Heap) :=
 match b with
 |none=>none
 |some false=>zAE ⟨[],.nov,[]⟩ (xF C ρ ops rest (putT T o.dst .nov) h)
 |some true=>match exec1 C ρ (nth h) h.length T o with
   |none=>none
   |some (.pan _,_)=>none
   |some (.val v,p)=>match uA h.length p with
    |false=>none
    |true=>zAE ⟨foot C (nth h) T o,v,p⟩ (xF C ρ ops rest (putT T o.dst v) (patch h p))
def zJE (C:Cfg) (ρ:Oracle) (ops:List Oper) (o:Oper) (rest:List Oper) (T:Env) (h:Heap) :
  xF C ρ ops (o::rest) T h=gdR (wanted ops T o) C ρ ops o rest T h:=by
 rw[xF];unfold gdR zAE;rfl
def zO6(C:Cfg)(ρ:Oracle)(ops:List Oper)(o:Oper)(rest:List Oper)(T:Env)(h:Heap):gdR (some true) C ρ ops o rest T h=match exec1 C ρ (nth h) h.length T o with
   |none=>none
   |some (.pan _,_)=>none
   |some (.val v,p)=>match uA h.length p with
    |false=>none
    |true=>zAE ⟨foot C (nth h) T o,v,p⟩ (xF C ρ ops rest (putT T o.dst v) (patch h p)):=rfl
def zMK(C:Cfg)(ρ:Oracle)(ops:List Oper)(o:Oper)(rest:List Oper)(T:Env)(h:Heap):gdR (some false) C ρ ops o rest T h=zAE ⟨[],.nov,[]⟩ (xF C ρ ops rest (putT T o.dst .nov) h):=rfl
def zKJ(r:Rec)(l:List Rec)(T:Env)(h:Heap):zAE r (some (l,T,h))=some (r::l,T,h):=rfl
def yGp{x y:Option (Option AV×Env×Heap)}{Q:Option AV→Env→Heap→Prop}(h:x=y)(hq:RW y Q):RW x Q:=h ▸ hq
def zQk{r:Option AV}{T:Env}{h:Heap}{Q:Option AV→Env→Heap→Prop}(hq:Q r T h):RW (some (r,T,h)) Q:=⟨r,T,h,rfl,hq⟩
def zXn {b:Bool} {C:Cfg} {ρ:Oracle} {k:Nat} {ops:List Oper} {o:Oper} {rest:List Oper} {T:Env} {h:Heap} {Q:Option AV→Env→Heap→Prop}
  (h1:b=true→RW (one1 C ρ k ops o rest T h) Q) (h2:b=false→RW (xH C ρ k ops rest (putT T o.dst .nov) h) Q):RW (gdL (some b) C ρ k ops o rest T h) Q:=by
 cases b with
 |true=>exact h1 rfl
 |false=>exact h2 rfl
def zUe {b:Bool} {C:Cfg} {ρ:Oracle} {k:Nat} {ops:List Oper} {o:Oper} {rest:List Oper} {T:Env} {h:Heap} {Q:Option AV→Env→Heap→Prop}
  (h1:b=false→RW (one1 C ρ k ops o rest T h) Q) (h2:b=true→RW (xH C ρ k ops rest (putT T o.dst .nov) h) Q):RW (gdL (some !b) C ρ k ops o rest T h) Q:=by
 cases b with
 |true=>exact h2 rfl
 |false=>exact h1 rfl
def yGI{x y:Option (List Rec×Env×Heap)}{Q:List Rec→Env→Heap→Prop}(h:x=y)(hq:RR y Q):RR x Q:=h ▸ hq
def zQw{l:List Rec}{T:Env}{h:Heap}{Q:List Rec→Env→Heap→Prop}(hq:Q l T h):RR (some (l,T,h)) Q:=⟨l,T,h,rfl,hq⟩
def zXO {b:Bool} {C:Cfg} {ρ:Oracle} {ops:List Oper} {o:Oper} {rest:List Oper} {T:Env} {h:Heap} {Q:List Rec→Env→Heap→Prop}
  (h1:b=true→RR (match exec1 C ρ (nth h) h.length T o with
   |none=>none
   |some (.pan _,_)=>none
   |some (.val v,p)=>match uA h.length p with
    |false=>none
    |true=>zAE ⟨foot C (nth h) T o,v,p⟩ (xF C ρ ops rest (putT T o.dst v) (patch h p))) Q) (h2:b=false→RR (zAE ⟨[],.nov,[]⟩ (xF C ρ ops rest (putT T o.dst .nov) h)) Q):RR (gdR (some b) C ρ ops o rest T h) Q:=by
 cases b with
 |true=>exact h1 rfl
 |false=>exact h2 rfl
def zVu {b:Bool} {C:Cfg} {ρ:Oracle} {ops:List Oper} {o:Oper} {rest:List Oper} {T:Env} {h:Heap} {Q:List Rec→Env→Heap→Prop}
  (h1:b=false→RR (match exec1 C ρ (nth h) h.length T o with
   |none=>none
   |some (.pan _,_)=>none
   |some (.val v,p)=>match uA h.length p with
    |false=>none
    |true=>zAE ⟨foot C (nth h) T o,v,p⟩ (xF C ρ ops rest (putT T o.dst v) (patch h p))) Q) (h2:b=true→RR (zAE ⟨[],.nov,[]⟩ (xF C ρ ops rest (putT T o.dst .nov) h)) Q):RR (gdR (some !b) C ρ ops o rest T h) Q:=by
 cases b with
 |true=>exact h2 rfl
 |false=>exact h1 rfl
def zP2{r:Rec}{x:Option (List Rec×Env×Heap)}{Q:List Rec→Env→Heap→Prop}(h:RR x fun l T h=>Q (r::l) T h):RR (zAE r x) Q:=by
 obtain⟨l,T,h',rfl,h2⟩:=h;exact⟨_,_,_,rfl,h2⟩
section
variable {C:Cfg} {m k:Nat} {keep:Nat→Option (List Nat)} {st:St} {Q:Ex→St→Prop}
theorem yFn {id:Nat} {ops:Array Oper} (hd:qF k ops.toList=true) (hr:RW (xH C (Om C) k ops.toList ops.toList st.T st.h) (rwQ Q)) :
  W C m k keep (.region id ops false) st Q:=by
 obtain⟨r,T,h,h1,h2⟩:=hr;cases r with
 |none=>exact zFb hd h1 h2
 |some v=>exact zKi (e:=.pan v) (st':=⟨T,h⟩) (by simp only[region,hd,h1]) h2
theorem yCq {id:Nat} {ops:Array Oper} (hs:zCD ops.toList=true) (hd:qF k ops.toList=true)
  (hr:RR (xF C (Om C) ops.toList ops.toList st.T st.h) fun l T h=>calm (masks ops.toList) (zBf (uB 0 l))=true∧Q .normal ⟨T,h⟩) :
  W C m k keep (.region id ops true) st Q:=by
 obtain⟨l,T,h,h1,h2,h3⟩:=hr;exact yAp hs hd h1 h2 h3
end
section
variable {C:Cfg} {m k:Nat} {keep:Nat→Option (List Nat)} {st:St} {Q:Ex→St→Prop} {b:Code}
def zEj(C:Cfg)(m k:Nat)(keep:Nat→Option (List Nat))(b:Code)(Q:Ex→St→Prop):Ex→St→Prop
 |.normal,st=>W C m k keep (.loop b) st Q
 |e,st=>Q e st
theorem zV5{st1:St}(h0:tidy m k (xN keep b) st=some st1)(h:W C m k keep b st1 (zEj C m k keep b Q)):W C m k keep (.loop b) st Q:=by
 obtain⟨n,e,st2,h2,h3⟩:=h;cases e with
 |normal =>
  obtain⟨n',e',st4,h6,h7⟩:=h3;simp only[exec] at h6;refine⟨max n n'+1,e',st4,?_,h7⟩;simp only[exec]
  show iter (tidy m k (xN keep b)) _ _ _=_
  unfold iter;rw[h0];dsimp only;rw[uP (by omega) h2];dsimp only;obtain⟨L,s1,s2⟩:=zG8 (body:=fun ρ n st=>exec C ρ n m k keep b st) (gc:=tidy m k (xN keep b)) (fun st=>uO C m k keep b st) n' st2 (Om C) n' _ h6;exact s2 (Om C) (max n n'+1) (max n n') (by omega) (by omega) s1
 |exit id =>
  refine⟨n+1,_,st2,?_,h3⟩;simp only[exec]
  show iter (tidy m k (xN keep b)) _ _ _=_
  unfold iter;rw[h0];dsimp only;rw[uP (by omega) h2]
 |ret =>
  refine⟨n+1,_,st2,?_,h3⟩;simp only[exec]
  show iter (tidy m k (xN keep b)) _ _ _=_
  unfold iter;rw[h0];dsimp only;rw[uP (by omega) h2]
 |pan v =>
  refine⟨n+1,_,st2,?_,h3⟩;simp only[exec]
  show iter (tidy m k (xN keep b)) _ _ _=_
  unfold iter;rw[h0];dsimp only;rw[uP (by omega) h2]
theorem uX(h:W C m k keep (.loop b) st Q):zEj C m k keep b Q .normal st:=h
theorem jN{id:Nat}(h:Q (.exit id) st):zEj C m k keep b Q (.exit id) st:=h
theorem zAy(h:Q .ret st):zEj C m k keep b Q .ret st:=h
theorem zAC{v:AV}(h:Q (.pan v) st):zEj C m k keep b Q (.pan v) st:=h
end
structure Hid (p:Prop):Prop where
 h:p
def zDD(C:Cfg)(ρ:Oracle)(k:Nat)(ops:List Oper)(T:Env)(h:Heap):xH C ρ k ops [] T h=some (none,T,h):=by rw[xH]
def zLm(C:Cfg)(ρ:Oracle)(ops:List Oper)(T:Env)(h:Heap):xF C ρ ops [] T h=some ([],T,h):=by rw[xF]
def zVZ{C:Cfg}{f:FuncId}{fn:Func}{m:Nat}{R:Out→Heap→Prop}{st:St}{v v':AV}{h':Heap}(h1:results C.P fn st=some v)(h2:yU C f m v st.h=some (v',h'))(h3:R (.val v') h')(h0:yI fn.ntmps st.T=some []):ends C f fn m R .ret st :=
 ⟨h0,v,h1,v',h',h2,h3⟩
def zPS{C:Cfg}{f:FuncId}{fn:Func}{m:Nat}{R:Out→Heap→Prop}{st:St}{v v':AV}{h':Heap}(h1:results C.P fn st=some v)(h2:yU C f m v st.h=some (v',h'))(h3:R (.val v') h')(h0:yI fn.ntmps st.T=some []):ends C f fn m R .normal st :=
 ⟨h0,v,h1,v',h',h2,h3⟩
def zVK{C:Cfg}{f:FuncId}{fn:Func}{m:Nat}{R:Out→Heap→Prop}{st:St}{v v':AV}{h':Heap}(h2:yU C f m v st.h=some (v',h'))(h3:R (.pan v') h')(h0:yI fn.ntmps st.T=some []):ends C f fn m R (.pan v) st :=
 ⟨h0,v',h',h2,h3⟩
def zT8{C:Cfg}{f:FuncId}{fn:Func}{m:Nat}{st:St}{v w v':AV}{h h':Heap}(h1:results C.P fn st=some v)(h2:yU C f m v st.h=some (w,h))(h3:w=v')(h4:h=h')(h0:yI fn.ntmps st.T=some []):Ends' C f fn m v' h' .ret st :=
 ⟨h0,v,h1,by rw[h2,h3,h4]⟩
def jS(C:Cfg)(f:FuncId)(x y:Tree)(h:Heap):yU C f 0 (.tup [.t x,.t y]) h=some (.tup [.t x,.t y],[]):=by
 unfold yU;cases C.thaw f<;>rfl
def jQ(C:Cfg)(f:FuncId)(x y z:Tree)(h:Heap):yU C f 0 (.tup [.t x,.t y,.t z]) h=some (.tup [.t x,.t y,.t z],[]):=by
 unfold yU;cases C.thaw f<;>rfl
def zJ {C:Cfg} {f:FuncId} {fn:Func} {c:Code} {args:List AV} {h:Heap} {α:Type} {F:α→AV} {P:α→Prop} (hf:nth C.P.funcs.toList f=some fn) (hb:fn.body=some c)
  (hw:W C h.length fn.ntmps (C.keep f) c ⟨zV 0 args,h⟩ (ends C f fn h.length fun o h'=>∃a,(o=.val (F a)∧h'=[])∧P a)) (hn:Nat.ble args.length fn.ntmps=true:=by kernel_rfl):∃a,Om C f args h=some (.val (F a),[])∧P a:=by
 obtain⟨o,h',h1,a,⟨rfl,rfl⟩,h2⟩:=xU hf hb hw hn;exact⟨a,h1,h2⟩
def zAa {C:Cfg} {f:FuncId} {fn:Func} {c:Code} {args:List AV} {h hr:Heap} {α:Type} {F:α→AV} {P:α→Prop} (hf:nth C.P.funcs.toList f=some fn) (hb:fn.body=some c)
  (hw:W C h.length fn.ntmps (C.keep f) c ⟨zV 0 args,h⟩ (ends C f fn h.length fun o h'=>∃a,(o=.val (F a)∧h'=hr)∧P a)) (hn:Nat.ble args.length fn.ntmps=true:=by kernel_rfl):∃a,Om C f args h=some (.val (F a),hr)∧P a:=by
 obtain⟨o,h',h1,a,⟨rfl,rfl⟩,h2⟩:=xU hf hb hw hn;exact⟨a,h1,h2⟩
def b00:decide (0<0)=false:=rfl
def b01:decide (0<1)=true:=rfl
def b02:decide (0<2)=true:=rfl
def b03:decide (0<3)=true:=rfl
def b04:decide (0<4)=true:=rfl
def b10:decide (1<0)=false:=rfl
def b11:decide (1<1)=false:=rfl
def b12:decide (1<2)=true:=rfl
def b13:decide (1<3)=true:=rfl
def b14:decide (1<4)=true:=rfl
def b20:decide (2<0)=false:=rfl
def b21:decide (2<1)=false:=rfl
def b22:decide (2<2)=false:=rfl
def b23:decide (2<3)=true:=rfl
def b24:decide (2<4)=true:=rfl
def b30:decide (3<0)=false:=rfl
def b31:decide (3<1)=false:=rfl
def b32:decide (3<2)=false:=rfl
def b33:decide (3<3)=false:=rfl
def b34:decide (3<4)=true:=rfl
def b40:decide (4<0)=false:=rfl
def b41:decide (4<1)=false:=rfl
def b42:decide (4<2)=false:=rfl
def b43:decide (4<3)=false:=rfl
def b44:decide (4<4)=false:=rfl
section
variable (P:Program) (t:TypeId) (k k':IntKind) (a b:Int)
theorem zAQ:binop P .add t (.t (.int k a)) (.t (.int k b))=some (.t (.int k (k.wrap (a+b)))):=by simp [binop,Go.binOp,Op.intArith,xT,vG]
theorem zA0:binop P .sub t (.t (.int k a)) (.t (.int k b))=some (.t (.int k (k.wrap (a - b)))):=by simp [binop,Go.binOp,Op.intArith,xT,vG]
theorem zAP:binop P .mul t (.t (.int k a)) (.t (.int k b))=some (.t (.int k (k.wrap (a * b)))):=by simp [binop,Go.binOp,Op.intArith,xT,vG]
theorem zI8(h:b≠0):binop P .quo t (.t (.int k a)) (.t (.int k b))=some (.t (.int k (k.wrap (a.tdiv b)))):=by simp [binop,Go.binOp,Op.intDiv,xT,vG,h]
theorem zMn(h:b≠0):binop P .rem t (.t (.int k a)) (.t (.int k b))=some (.t (.int k (a.tmod b))):=by simp [binop,Go.binOp,Op.intDiv,xT,vG,h]
def zDj(op:BinOp)(k:IntKind)(a b:Int):Int:=match op with
 |.and=>k.wrap (BitVec.ofInt k.bits a &&& BitVec.ofInt k.bits b).toNat
 |.or=>k.wrap (BitVec.ofInt k.bits a ||| BitVec.ofInt k.bits b).toNat
 |.xor=>k.wrap (BitVec.ofInt k.bits a ^^^ BitVec.ofInt k.bits b).toNat
 |_=>k.wrap (BitVec.ofInt k.bits a &&& ~~~ BitVec.ofInt k.bits b).toNat
theorem zAI:binop P .and t (.t (.int k a)) (.t (.int k b))=some (.t (.int k (zDj .and k a b))):=by simp [binop,Go.binOp,Op.intBits,xT,vG,zDj]
theorem zB4:binop P .or t (.t (.int k a)) (.t (.int k b))=some (.t (.int k (zDj .or k a b))):=by simp [binop,Go.binOp,Op.intBits,xT,vG,zDj]
theorem zA1:binop P .xor t (.t (.int k a)) (.t (.int k b))=some (.t (.int k (zDj .xor k a b))):=by simp [binop,Go.binOp,Op.intBits,xT,vG,zDj]
theorem zY6(h:0≤b):binop P .shl t (.t (.int k a)) (.t (.int k' b))=some (.t (.int k (k.wrap (a * 2 ^ min b.toNat k.bits)))):=by
 simp [binop,Go.binOp,Op.shift,xT,vG,Int.not_lt.2 h]
theorem zMr(h:0≤b):binop P .shr t (.t (.int k a)) (.t (.int k' b))=some (.t (.int k (a.fdiv (2 ^ min b.toNat k.bits)))):=by
 simp [binop,Go.binOp,Op.shift,xT,vG,Int.not_lt.2 h]
theorem zL8(n:Nat)(hn:n<64):binop P .shr t (.t (.int .u64 a)) (.t (.int k' (n:Int)))=some (.t (.int .u64 (a / 2 ^ n))):=by
 rw[zMr P t .u64 k' a n (by omega)];have h1:min (n:Int).toNat IntKind.u64.bits=n:=by simp [IntKind.bits];omega
 rw[h1,Int.fdiv_eq_ediv_of_nonneg _ (Int.pow_nonneg (by decide))]
theorem kM:binop P .shr t (.t (.int .u64 a)) (.t (.int k' 32))=some (.t (.int .u64 (a / 4294967296))):=zL8 P t k' a 32 (by decide)
theorem kN:binop P .shr t (.t (.int .u64 a)) (.t (.int k' 16))=some (.t (.int .u64 (a / 65536))):=zL8 P t k' a 16 (by decide)
theorem zAf:binop P .shr t (.t (.int .u64 a)) (.t (.int k' 8))=some (.t (.int .u64 (a / 256))):=zL8 P t k' a 8 (by decide)
theorem zAU:unop .neg (.t (.int k a))=some (.t (.int k (k.wrap (0 - a)))):=by simp [unop,scal,Op.unary,Op.intArith,xT,vG]
theorem zAS(x y:List Nat):binop P .lss t (.t (.str x)) (.t (.str y))=some (.t (.bool (bytesLess x y))):=rfl
theorem zAK(x y:List Nat):binop P .gtr t (.t (.str x)) (.t (.str y))=some (.t (.bool !(bytesLess x y||beqL x y))):=rfl
theorem zAN(x y:List Nat):binop P .leq t (.t (.str x)) (.t (.str y))=some (.t (.bool (bytesLess x y||beqL x y))):=rfl
theorem zAX(x y:List Nat):binop P .geq t (.t (.str x)) (.t (.str y))=some (.t (.bool !(bytesLess x y))):=rfl
end
def U64(n:Int):Prop:=0≤n∧n<18446744073709551616
def zBC(x:Int):IntKind.u64.wrap x=x % 18446744073709551616:=by simp [IntKind.wrap,IntKind.signed,IntKind.bits]
def zA8(x:Int):U64 (IntKind.u64.wrap x):=by rw[zBC];unfold U64;omega
def R64(n:Int):Prop:=-9223372036854775808≤n∧n<9223372036854775808
def zHb(x:Int):R64 (IntKind.i64.wrap x):=by
 simp only[R64,IntKind.wrap,IntKind.signed,IntKind.bits,Bool.true_and];split<;>rename_i h1<;>simp at h1<;>omega
def zYV:R64 0∧R64 1:=by simp [R64]
class Fol (p:Prop) (q:outParam Prop):Prop where
 h:q→p
def aA{p q:Prop}[s:Fol p q](h:q):p:=s.h h
section
variable {C:Cfg} {m k:Nat} {keep:Nat→Option (List Nat)} {st:St} {Q:Ex→St→Prop} {a b:Code} {id:Nat} {v:AV}
instance:Fol (zEj C m k keep b Q .normal st) (W C m k keep (.loop b) st Q):=⟨uX⟩
instance:Fol (zEj C m k keep b Q (.exit id) st) (Q (.exit id) st):=⟨jN⟩
instance:Fol (zEj C m k keep b Q .ret st) (Q .ret st):=⟨zAy⟩
instance:Fol (zEj C m k keep b Q (.pan v) st) (Q (.pan v) st):=⟨zAC⟩
instance:Fol (zEm C m k keep b Q .normal st) (W C m k keep b st Q):=⟨uF⟩
instance:Fol (zEm C m k keep b Q (.exit id) st) (Q (.exit id) st):=⟨kK⟩
instance:Fol (zEm C m k keep b Q .ret st) (Q .ret st):=⟨jI⟩
instance:Fol (zEm C m k keep b Q (.pan v) st) (Q (.pan v) st):=⟨jP⟩
instance:Fol (zCi id Q .normal st) (Q .normal st):=⟨uD⟩
instance:Fol (zCi id Q (.exit id) st) (Q .normal st):=⟨zAz⟩
instance:Fol (zCi id Q .ret st) (Q .ret st):=⟨jJ⟩
instance:Fol (zCi id Q (.pan v) st) (Q (.pan v) st):=⟨jL⟩
instance:Fol (W C m k keep (.seq a b) st Q) (W C m k keep a st (zEm C m k keep b Q)):=⟨zCU⟩
instance:Fol (W C m k keep (.block id b) st Q) (W C m k keep b st (zCi id Q)):=⟨zBn⟩
instance:Fol (W C m k keep (.scope b) st Q) (W C m k keep b st Q):=⟨zBq⟩
instance:Fol (W C m k keep .skip st Q) (Q .normal st):=⟨zCr⟩
instance:Fol (W C m k keep .ret st Q) (Q .ret st):=⟨zEk⟩
instance:Fol (W C m k keep (.exit id) st Q) (Q (.exit id) st):=⟨zCt⟩
instance:Fol (W C m k keep (.label id) st Q) (Q .normal st):=⟨zBu⟩
instance {T:Env} {h:Heap}:Fol (rwQ Q none T h) (Q .normal ⟨T,h⟩):=⟨fun h=>h⟩
instance {T:Env} {h:Heap}:Fol (rwQ Q (some v) T h) (Q (.pan v) ⟨T,h⟩):=⟨fun h=>h⟩
section
variable {α:Type} {ks:Option (List Nat)} {S:α→St} {μ:α→Nat} {P:α→Prop} {a:α}
instance:Fol (again m k ks S μ P a Q (.exit id) st) (Q (.exit id) st):=⟨kH⟩
instance:Fol (again m k ks S μ P a Q .ret st) (Q .ret st):=⟨jO⟩
instance:Fol (again m k ks S μ P a Q (.pan v) st) (Q (.pan v) st):=⟨jK⟩
end
theorem aB {ops:Array Oper} (hr:RW (xH C (Om C) k ops.toList ops.toList st.T st.h) (rwQ Q)) (hd:qF k ops.toList=true:=by kernel_rfl) :
  W C m k keep (.region id ops false) st Q:=yFn hd hr
theorem aC {ops:Array Oper} (hr:RR (xF C (Om C) ops.toList ops.toList st.T st.h) fun l T h=>calm (masks ops.toList) (zBf (uB 0 l))=true∧Q .normal ⟨T,h⟩)
  (hs:zCD ops.toList=true:=by kernel_rfl) (hd:qF k ops.toList=true:=by kernel_rfl):W C m k keep (.region id ops true) st Q:=yCq hs hd hr
theorem aG{id':Nat}(h:Q (.exit id') st)(hn:Nat.beq id' id=false:=by kernel_rfl):zCi id Q (.exit id') st:=zAB hn h
theorem aI{st1:St}(h:W C m k keep b st1 (zEj C m k keep b Q))(h0:tidy m k (xN keep b) st=some st1:=by(simp only[xN,wF,F_,tidy,zCk,canon,reach,wQ,refs,vY,catMap,depth,renL,ren,renO,sub,sub1,upto,mem,place,fresh,cond_true,Ab.get,nth,List.map,List.zip_cons_cons,List.zip_nil_left,List.zip_nil_right,List.take,List.append_nil,List.nil_append,List.cons_append,Bool.and_true,vI,decide_true,decide_false,reduceIte,Nat.reduceEqDiff,Nat.beq,Sl.t,Val.c,Slot.c,Tpl.c,Fact.c,Bind.c,Node.c,Test.c,STest.c,Pat.c,intC,Nat.zero_add,Nat.reduceAdd]<;>exact rfl)):W C m k keep (.loop b) st Q:=zV5 h0 h
theorem aTd{p:Prop}(h:p:=by(simp only[xN,wF,F_,tidy,zCk,canon,reach,wQ,refs,vY,catMap,depth,renL,ren,renO,sub,sub1,upto,mem,place,fresh,cond_true,Ab.get,nth,List.map,List.zip_cons_cons,List.zip_nil_left,List.zip_nil_right,List.take,List.append_nil,List.nil_append,List.cons_append,Bool.and_true,vI,decide_true,decide_false,reduceIte,Nat.reduceEqDiff,Nat.beq,Sl.t,Val.c,Slot.c,Tpl.c,Fact.c,Bind.c,Node.c,Test.c,STest.c,Pat.c,intC]<;>exact rfl)):p:=h
theorem aTdX{p:Prop}(h:p:=by(simp only[xN,wF,F_,tidy,zCk,canon,reach,wQ,refs,vY,catMap,depth,renL,ren,renO,sub,sub1,upto,mem,place,fresh,cond_true,Ab.get,nth,List.map,List.zip_cons_cons,List.zip_nil_left,List.zip_nil_right,List.take,List.append_nil,List.nil_append,List.cons_append,Bool.and_true,vI,decide_true,decide_false,reduceIte,Nat.reduceEqDiff,Nat.beq,Sl.t,Val.c,Slot.c,Tpl.c,Fact.c,Bind.c,Node.c,Test.c,STest.c,Pat.c,intC,X_]<;>exact rfl)):p:=h
end
section
variable {C:Cfg} {f:FuncId} {fn:Func} {m:Nat} {R:Out→Heap→Prop} {st:St} {v v' w:AV} {h h':Heap}
theorem aJ (h3:R (.val v') h') (h1:results C.P fn st=some v:=by(simp only[zAm,results,qQ,zA5,Ab.get,Nat.beq,load,loadCells,nth,cut,mkAgg,trees,Option.map_some,List.map_cons,List.map_nil,List.length_cons,List.length_nil,List.take,List.drop,Nat.zero_add,Nat.add_zero,Nat.reduceAdd,Nat.reduceLeDiff,if_true,F_, *];exact rfl))
  (h2:yU C f m v st.h=some (v',h'):=by(first|exact qD _ _ _ _|exact jS _ _ _ _ _|exact jQ _ _ _ _ _ _|(simp only[yU,jV,qO,yO,view,elems,xB,patch,put1,catMap,canon,reach,wQ,refs,vY,depth,renL,ren,renO,sub,sub1,upto,mem,place,fresh,cond_true,Ab.get,nth,List.map,List.take,List.length_cons,List.length_nil,List.append_nil,List.nil_append,List.cons_append,Bool.and_true,vI,decide_true,decide_false,reduceIte,Nat.reduceEqDiff,Nat.reduceAdd,Nat.zero_add,Nat.beq,mkAgg,trees,if_true,F_]<;>exact rfl)|kernel_rfl))
  (h0:yI fn.ntmps st.T=some []:=by kernel_rfl):ends C f fn m R .ret st:=zVZ h1 h2 h3 h0
theorem aL (h3:R (.val v') h') (h1:results C.P fn st=some v:=by(simp only[zAm,results,qQ,zA5,Ab.get,Nat.beq,load,loadCells,nth,cut,mkAgg,trees,Option.map_some,List.map_cons,List.map_nil,List.length_cons,List.length_nil,List.take,List.drop,Nat.zero_add,Nat.add_zero,Nat.reduceAdd,Nat.reduceLeDiff,if_true,F_, *];exact rfl))
  (h2:yU C f m v st.h=some (v',h'):=by(first|exact qD _ _ _ _|exact jS _ _ _ _ _|exact jQ _ _ _ _ _ _|(simp only[yU,jV,qO,yO,view,elems,xB,patch,put1,catMap,canon,reach,wQ,refs,vY,depth,renL,ren,renO,sub,sub1,upto,mem,place,fresh,cond_true,Ab.get,nth,List.map,List.take,List.length_cons,List.length_nil,List.append_nil,List.nil_append,List.cons_append,Bool.and_true,vI,decide_true,decide_false,reduceIte,Nat.reduceEqDiff,Nat.reduceAdd,Nat.zero_add,Nat.beq,mkAgg,trees,if_true,F_]<;>exact rfl)|kernel_rfl))
  (h0:yI fn.ntmps st.T=some []:=by kernel_rfl):ends C f fn m R .normal st:=zPS h1 h2 h3 h0
theorem aM (h3:R (.pan v') h')
  (h2:yU C f m v st.h=some (v',h'):=by(first|exact qD _ _ _ _|exact jS _ _ _ _ _|exact jQ _ _ _ _ _ _|(simp only[yU,jV,qO,yO,view,elems,xB,patch,put1,catMap,canon,reach,wQ,refs,vY,depth,renL,ren,renO,sub,sub1,upto,mem,place,fresh,cond_true,Ab.get,nth,List.map,List.take,List.length_cons,List.length_nil,List.append_nil,List.nil_append,List.cons_append,Bool.and_true,vI,decide_true,decide_false,reduceIte,Nat.reduceEqDiff,Nat.reduceAdd,Nat.zero_add,Nat.beq,mkAgg,trees,if_true,F_]<;>exact rfl)|kernel_rfl))
  (h0:yI fn.ntmps st.T=some []:=by kernel_rfl):ends C f fn m R (.pan v) st:=zVK h2 h3 h0
theorem aK (h3:w=v') (h4:h=h') (h1:results C.P fn st=some v:=by(simp only[zAm,results,qQ,zA5,Ab.get,Nat.beq,load,loadCells,nth,cut,mkAgg,trees,Option.map_some,List.map_cons,List.map_nil,List.length_cons,List.length_nil,List.take,List.drop,Nat.zero_add,Nat.add_zero,Nat.reduceAdd,Nat.reduceLeDiff,if_true,F_, *];exact rfl))
  (h2:yU C f m v st.h=some (w,h):=by(first|exact qD _ _ _ _|exact jS _ _ _ _ _|exact jQ _ _ _ _ _ _|(simp only[yU,jV,qO,yO,view,elems,xB,patch,put1,catMap,canon,reach,wQ,refs,vY,depth,renL,ren,renO,sub,sub1,upto,mem,place,fresh,cond_true,Ab.get,nth,List.map,List.take,List.length_cons,List.length_nil,List.append_nil,List.nil_append,List.cons_append,Bool.and_true,vI,decide_true,decide_false,reduceIte,Nat.reduceEqDiff,Nat.reduceAdd,Nat.zero_add,Nat.beq,mkAgg,trees,if_true,F_]<;>exact rfl)|kernel_rfl))
  (h0:yI fn.ntmps st.T=some []:=by kernel_rfl):Ends' C f fn m v' h' .ret st:=zT8 h1 h2 h3 h4 h0
end
section
variable {b:Bool} {C:Cfg} {ρ:Oracle} {ops:List Oper} {o:Oper} {rest:List Oper} {T:Env} {h:Heap}
instance {r:Option AV} {Q:Option AV→Env→Heap→Prop}:Fol (RW (some (r,T,h)) Q) (Q r T h):=⟨zQk⟩
instance {Q:List Rec→Env→Heap→Prop} {r:Rec} {x:Option (List Rec×Env×Heap)}:Fol (RR (zAE r x) Q) (RR x fun l T h=>Q (r::l) T h):=⟨zP2⟩
theorem aE{x y:Option (Option AV×Env×Heap)}{Q:Option AV→Env→Heap→Prop}(hq:RW y Q)(h:x=y:=by(simp only[beq_true,beq_false,Bool.true_beq,Bool.false_beq,decide_true,decide_false,Int.ofNat_eq_natCast,List.length_map,List.getElem?_map,Option.map_some,wanted,exec1,zAq,uY,xBox,qS,wB,xLen,uQ,wK,xM,uZ,cellsOf,zM,opds,qA,get,putT,ret,retO,lit,lit1,patch,put1,load,loadCells,cut,zW,mkAgg,trees,nth,lenOf,indexAddr,storeAt,upd,splice,wO,wU,zAm,uM,uL,kA,kB,kE,kM,kN,zAf,convert,zAQ,zA0,zAP,zAI,zB4,zA1,zAU,zAS,zAK,zAN,zAX,kO,qU,qZ,qY,qW,kC,kD,qV,qX,uN,qL,Nat.beq,beq_self_eq_true,Nat.zero_add,Nat.add_zero,List.toList_toArray,List.map_cons,List.map_nil,List.length_cons,List.length_nil,List.take,List.drop,List.all_cons,List.all_nil,List.cons_append,List.nil_append,List.append_nil,Bool.and_true,Bool.true_and,Bool.not_true,Bool.not_false,Bool.and_self,if_true,if_false,reduceIte,Nat.reduceAdd,Nat.reduceLeDiff,Nat.reduceEqDiff,Sl.t,Val.c,Slot.c,Tpl.c,Fact.c,Bind.c,Node.c,Test.c,STest.c,Pat.c,intC,and_self,true_and,and_true,b00,b01,b02,b03,b04,b10,b11,b12,b13,b14,b20,b21,b22,b23,b24,b30,b31,b32,b33,b34,b40,b41,b42,b43,b44,zAk,uC,reach,wQ,refs,vY,catMap,depth,sub,sub1,renL,ren,renO,mem,place,fresh,xL,plain,zB2,back,zDq,zB7,vD,Way.id,Way.ver,vO,zCJ,getN,view,yO,xB,zCY,zZ,ne_eq,not_false_eq_true,cond_true,cond_false,zCe,Option.getD_some,elems,yE,wI,yV,xV,xV.go,zAp,qG,setN,List.replicate,Nat.mul_one,Nat.reduceMul,Nat.reduceLT,append,added,lens,kP,zCA,zDD,zFt,zEI,mfind,jU,zAZ,UInt8.reduceToNat,zBR,Ab.bound,Int.toNat_natCast,bne_self_eq_false,true_or,Nat.reduceLT,one1,zAG,deferred,jE,yI,zB5,jT,zBM,kQ,qM,vW,zCu,zCK,zEe,zEn,qK,Bool.or_true,Bool.or_false,Bool.true_or,Bool.false_or,F_, *];exact rfl)):RW x Q:=h ▸ hq
theorem aF{x y:Option (List Rec×Env×Heap)}{Q:List Rec→Env→Heap→Prop}(hq:RR y Q)(h:x=y:=by(simp only[beq_true,beq_false,Bool.true_beq,Bool.false_beq,decide_true,decide_false,Int.ofNat_eq_natCast,List.length_map,List.getElem?_map,Option.map_some,wanted,exec1,zAq,uY,xBox,qS,wB,xLen,uQ,wK,xM,uZ,cellsOf,zM,opds,qA,get,putT,ret,retO,lit,lit1,patch,put1,load,loadCells,cut,zW,mkAgg,trees,nth,lenOf,indexAddr,storeAt,upd,splice,wO,wU,zAm,uM,uL,kA,kB,kE,kM,kN,zAf,convert,zAQ,zA0,zAP,zAI,zB4,zA1,zAU,zAS,zAK,zAN,zAX,kO,qU,qZ,qY,qW,kC,kD,qV,qX,uN,qL,Nat.beq,beq_self_eq_true,Nat.zero_add,Nat.add_zero,List.toList_toArray,List.map_cons,List.map_nil,List.length_cons,List.length_nil,List.take,List.drop,List.all_cons,List.all_nil,List.cons_append,List.nil_append,List.append_nil,Bool.and_true,Bool.true_and,Bool.not_true,Bool.not_false,Bool.and_self,if_true,if_false,reduceIte,Nat.reduceAdd,Nat.reduceLeDiff,Nat.reduceEqDiff,Sl.t,Val.c,Slot.c,Tpl.c,Fact.c,Bind.c,Node.c,Test.c,STest.c,Pat.c,intC,and_self,true_and,and_true,b00,b01,b02,b03,b04,b10,b11,b12,b13,b14,b20,b21,b22,b23,b24,b30,b31,b32,b33,b34,b40,b41,b42,b43,b44,zAk,uC,reach,wQ,refs,vY,catMap,depth,sub,sub1,renL,ren,renO,mem,place,fresh,xL,plain,zB2,back,zDq,zB7,vD,Way.id,Way.ver,vO,zCJ,getN,view,yO,xB,zCY,zZ,ne_eq,not_false_eq_true,cond_true,cond_false,zCe,Option.getD_some,elems,yE,wI,yV,xV,xV.go,zAp,qG,setN,List.replicate,Nat.mul_one,Nat.reduceMul,Nat.reduceLT,append,added,lens,kP,zJE,zLm,zKJ,uA,foot,zI0,names,zAg,zO6,zMK,mfind,jU,zAZ,UInt8.reduceToNat,zBR,Ab.bound,Int.toNat_natCast,bne_self_eq_false,true_or,Nat.reduceLT,one1,zAG,deferred,jE,yI,zB5,jT,zBM,kQ,qM,vW,zCu,zCK,zEe,zEn,qK,Bool.or_true,Bool.or_false,Bool.true_or,Bool.false_or,F_, *];exact rfl)):RR x Q:=h ▸ hq
theorem aD{l:List Rec}{T:Env}{h:Heap}{A B:List Rec→Env→Heap→Prop}(hq:B l T h)(hc:A l T h:=by kernel_rfl):RR (some (l,T,h)) fun l T h=>A l T h∧B l T h:=zQw ⟨hc,hq⟩
end
section
variable {C:Cfg} {m k:Nat} {keep:Nat→Option (List Nat)} {st:St} {Q:Ex→St→Prop} {a b:Code}
inductive cdP:Bool→Prop→Prop→Prop where
 |t {p q:Prop} (h:p):cdP true p q
 |f {p q:Prop} (h:q):cdP false p q
theorem cdPl{p q:Prop}(h:cdP true p q):p:=by cases h;assumption
theorem cdPr{p q:Prop}(h:cdP false p q):q:=by cases h;assumption
instance {p q:Prop}:Fol (cdP true p q) p:=⟨.t⟩
instance {p q:Prop}:Fol (cdP false p q) q:=⟨.f⟩
theorem cdT{v:Bool}{p q:Prop}(h1:v=true→p)(h2:v=false→q):cdP v p q:=by
 cases v with
 |true=>exact .t (h1 rfl)
 |false=>exact .f (h2 rfl)
theorem aGd {b:Bool} {C:Cfg} {ρ:Oracle} {k:Nat} {ops:List Oper} {o:Oper} {rest:List Oper} {T:Env} {h:Heap} {Q:Option AV→Env→Heap→Prop}
  (h1:cdP b (RW (one1 C ρ k ops o rest T h) Q) (RW (xH C ρ k ops rest (putT T o.dst .nov) h) Q)):RW (gdL (some b) C ρ k ops o rest T h) Q:=zXn (fun e=>by subst e;exact cdPl h1) (fun e=>by subst e;exact cdPr h1)
theorem aGn {b:Bool} {C:Cfg} {ρ:Oracle} {k:Nat} {ops:List Oper} {o:Oper} {rest:List Oper} {T:Env} {h:Heap} {Q:Option AV→Env→Heap→Prop}
  (h1:cdP b (RW (xH C ρ k ops rest (putT T o.dst .nov) h) Q) (RW (one1 C ρ k ops o rest T h) Q)):RW (gdL (some !b) C ρ k ops o rest T h) Q:=zUe (fun e=>by subst e;exact cdPr h1) (fun e=>by subst e;exact cdPl h1)
theorem aHd {b:Bool} {C:Cfg} {ρ:Oracle} {ops:List Oper} {o:Oper} {rest:List Oper} {T:Env} {h:Heap} {Q:List Rec→Env→Heap→Prop}
  (h1:cdP b (RR (match exec1 C ρ (nth h) h.length T o with
   |none=>none
   |some (.pan _,_)=>none
   |some (.val v,p)=>match uA h.length p with
    |false=>none
    |true=>zAE ⟨foot C (nth h) T o,v,p⟩ (xF C ρ ops rest (putT T o.dst v) (patch h p))) Q) (RR (zAE ⟨[],.nov,[]⟩ (xF C ρ ops rest (putT T o.dst .nov) h)) Q)):RR (gdR (some b) C ρ ops o rest T h) Q:=zXO (fun e=>by subst e;exact cdPl h1) (fun e=>by subst e;exact cdPr h1)
theorem aHn {b:Bool} {C:Cfg} {ρ:Oracle} {ops:List Oper} {o:Oper} {rest:List Oper} {T:Env} {h:Heap} {Q:List Rec→Env→Heap→Prop}
  (h1:cdP b (RR (zAE ⟨[],.nov,[]⟩ (xF C ρ ops rest (putT T o.dst .nov) h)) Q) (RR (match exec1 C ρ (nth h) h.length T o with
   |none=>none
   |some (.pan _,_)=>none
   |some (.val v,p)=>match uA h.length p with
    |false=>none
    |true=>zAE ⟨foot C (nth h) T o,v,p⟩ (xF C ρ ops rest (putT T o.dst v) (patch h p))) Q)):RR (gdR (some !b) C ρ ops o rest T h) Q:=zVu (fun e=>by subst e;exact cdPr h1) (fun e=>by subst e;exact cdPl h1)
theorem aCe{c:Operand}{v:Bool}(h1:cdP v (W C m k keep a st Q) (W C m k keep b st Q))(h:zM st.T c=.t (.bool v):=by(simp only[zM,Ab.get,lit,lit1,Nat.beq, *];exact rfl)):W C m k keep (.cond c a b) st Q :=
 zGE h (fun e=>by subst e;exact cdPl h1) (fun e=>by subst e;exact cdPr h1)
end
def gS{p q:Prop}(h:q)(k:q→p:=by first|exact fun h=>aA h|exact fun h=>aB h|exact fun h=>aC h|exact fun h=>aD h|exact fun h=>aGn h|exact fun h=>aGd h|exact fun h=>aHn h|exact fun h=>aHd h|exact fun h=>aE h|exact fun h=>aF h|exact fun h=>aG h|exact fun h=>aCe h|fail):p:=k h
def gA{p q:Prop}(h:q)(k:q→p:=by(intro x_;(first|(with_reducible (refine gS ?_;repeat refine gS ?_))|fail);exact x_)):p:=k h
def gT{p q r:Prop}(h1:q)(h2:r)(k:q→r→p:=by first|(with_reducible exact fun h1 h2=>cdT h1 h2)|fail):p:=k h1 h2
def mapA{α β:Type}{f:α→β}{a b:List α}:(a++b).map f=a.map f++b.map f:=List.map_append
def mapS{α β:Type}{f:α→β}{l:List α}{i:Nat}{a:α}:(l.set i a).map f=(l.map f).set i (f a):=List.map_set
def zRD {C:Cfg} {ρ:Oracle} {m k n n':Nat} {keep:Nat→Option (List Nat)} {c:Code} {st:St} {u:Pn} {r:Ex×St×Pn} (hn:n≤n')
  (hx:uK C ρ n m k keep c st u=some r):uK C ρ n' m k keep c st u=some r:=by
 obtain⟨L,h1,h2⟩:=zMI C m k keep c st u ρ n r hx;exact h2 ρ n' hn h1
def zXr{C:Cfg}{m k:Nat}{keep:Nat→Option (List Nat)}{st:St}{Q:Ex→St→Prop}{a b c:Code}(h:W C m k keep ((a.seq b).seq c) st Q):W C m k keep (a.seq (b.seq c)) st Q:=by
 obtain⟨n,e,st',h1,h2⟩:=h;refine⟨n,e,st',?_,h2⟩;simp only[exec] at h1 ⊢;cases ha:exec C (Om C) n m k keep a st with
 |none=>rw[ha] at h1;exact h1
 |some p =>
  obtain⟨e1,s1⟩:=p;rw[ha] at h1;cases e1<;>exact h1
section
variable {C:Cfg} {m k:Nat} {keep:Nat→Option (List Nat)} {st:St} {Q:Ex→St→Prop}
theorem zYN {f:Operand} {ps:Array Tmp} {asg body:Code} {e:Ex} {st':St} (h:zEt C (Om C) k keep f ps.toList asg body st=some (e,st')) (hq:Q e st') :
  W C m k keep (.rangeFunc f ps asg body) st Q:=⟨0,e,st',by simp only[exec];exact h,hq⟩
def endR(m id:Nat)(R:Bool→Heap→Prop)(e:Ex)(st:St):Prop :=
 ∃jump c T b j h',zCO.endOf e=some jump∧nth st.h id=some (.loop c T b j)∧canon (patch st.h [(id,.loop c T (if jump.isNone then 0 else 2) jump)]) m []=some ([],h')∧R jump.isNone h'
def asgR(C:Cfg)(m id:Nat)(c:LoopC)(R:Bool→Heap→Prop)(e:Ex)(st:St):Prop :=
 e=.normal∧∃c' T',nth st.h id=some (.loop c' T' 0 none)∧W C m c.k (C.keep c.kf) c.body ⟨st.T,patch st.h [(id,.loop c' T' 1 none)]⟩ (endR m id R)
theorem zPc {id:Nat} {as:List AV} {h:Heap} {c:LoopC} {T T1:List (Nat×AV)} {R:Bool→Heap→Prop} (hno:nth C.P.funcs.toList vK=none)
  (h0:nth h id=some (.loop c T 0 none)) (h1:zGZ c.ps as ((c.k,.rnd)::T)=some T1) (h2:(Nat.blt id h.length&&zCO.dstOKL c.k c.ps)=true)
  (hw:W C h.length c.k (C.keep c.kf) c.asg ⟨T1,h⟩ (asgR C h.length id c R)):∃b h',Om C vK (.yld id::as) h=some (.val (.t (.bool b)),h')∧R b h':=by
 obtain⟨n,e,st,w1,rfl,c',T',w2,n2,e2,st2,w3,jump,c2,T2,bb,jj,h',w4,w5,w6,w7⟩:=hw;refine⟨jump.isNone,h',zDP (n:=max n n2) ?_,w7⟩;unfold zDp;rw[hno];dsimp only;rw[show Nat.beq vK vK=true from Nat.beq_refl _];dsimp only;unfold zCO;simp only[h0,h1,h2];rw[uP (Nat.le_max_left n n2) w1];simp only[w2];rw[uP (Nat.le_max_right n n2) w3];simp only[w4,w5,w6]
def WS(C:Cfg)(m k:Nat)(keep:Nat→Option (List Nat))(c:Code)(st:St)(u:Pn)(Q:Ex→St→Pn→Prop):Prop :=
 ∃n e st' u',uK C (Om C) n m k keep c st u=some (e,st',u')∧Q e st' u'
def yHg(C:Cfg)(m k:Nat)(keep:Nat→Option (List Nat))(b:Code)(Q:Ex→St→Pn→Prop):Ex→St→Pn→Prop
 |.normal,st,u=>W C m k keep b st fun e st=>Q e st u
 |e,st,u=>Q e st u
theorem zLd{a b:Code}{u:Pn}{Q:Ex→St→Pn→Prop}(hr:zA9 a=true)(h:WS C m k keep a st u (yHg C m k keep b Q)):WS C m k keep (.seq a b) st u Q:=by
 obtain⟨n,e,st',u',h1,h2⟩:=h;cases e with
 |normal =>
  obtain⟨n2,e2,st2,h3,h4⟩:=h2;refine⟨max n n2,e2,st2,u',?_,h4⟩;rw[uK,hr];dsimp only;rw[zRD (Nat.le_max_left n n2) h1];dsimp only;rw[uP (Nat.le_max_right n n2) h3];rfl
 |exit id=>exact⟨n,_,_,_,by rw[uK,hr];dsimp only;rw[h1],h2⟩
 |ret=>exact⟨n,_,_,_,by rw[uK,hr];dsimp only;rw[h1],h2⟩
 |pan v=>exact⟨n,_,_,_,by rw[uK,hr];dsimp only;rw[h1],h2⟩
theorem zVd {id:Nat} {ops:Array Oper} {u u':Pn} {T:Env} {h:Heap} {Q:Ex→St→Pn→Prop} (hr:ops.toList.any zA4=true) (hd:qF k ops.toList=true)
  (hx:qN C (Om C) ops.toList ops.toList st.T st.h u=some (T,h,u')) (hq:Q .normal ⟨T,h⟩ u'):WS C m k keep (.region id ops false) st u Q :=
 ⟨0,_,_,_,by rw[uK,hr];dsimp only;rw[hd];dsimp only;rw[hx],hq⟩
def yHJ(C:Cfg)(fn:Func)(m:Nat)(R:Pn→Heap→Prop)(e:Ex)(st:St)(u:Pn):Prop :=
 (e=.normal∨e=.ret)∧yI fn.ntmps st.T=some []∧(∃v,results C.P fn st=some v)∧∃h',canon st.h m []=some ([],h')∧R (zC8 u) h'
theorem zG6 {g:FuncId} {fn:Func} {c:Code} {u:Pn} {args:List AV} {h:Heap} {R:Pn→Heap→Prop} (hno:nth C.P.funcs.toList (xD+g)=none) (hg:Nat.beq (xD+g) vK=false)
  (hf:nth C.P.funcs.toList g=some fn) (hb:fn.body=some c) (hn:Nat.ble args.length fn.ntmps=true) (hu:avPn (pnAV u)=some u)
  (hw:WS C h.length fn.ntmps (C.keep g) c ⟨zV 0 args,h⟩ u (yHJ C fn h.length R)):∃u' h',Om C (xD+g) (pnAV u::args) h=some (.val (pnAV u'),h')∧R u' h':=by
 obtain⟨n,e,st,u',w1,he,w2,⟨v,w3⟩,h',w4,w5⟩:=hw;refine⟨zC8 u',h',zDP (n:=n) ?_,w5⟩;unfold zDp;rw[hno];dsimp only;rw[hg];dsimp only;rw[show Nat.ble xD (xD+g)=true by rw[Nat.ble_eq];exact Nat.le_add_right _ _];dsimp only;rw[Nat.add_sub_cancel_left];unfold zJh;simp only[hu,hf,hb,hn];rw[w1];rcases he with rfl|rfl
 ·simp only[w2,w3,w4]
 simp only[w2,w3,w4]
end
end Go.Ab
namespace Go.Ab
open Go.ChangeShapes Go.WideShapes
section
variable {H:Type} {enc:TypeId×Value→H} {P:Program} {w:World}
def zG5(w:World):Imm:=fun b o=>w.cell? ⟨b,o,none⟩
structure CT (w:World) (ts:List Tree) (cs:List Value):Prop where
 len:ts.length=cs.length
 val:∀(i:Nat) c v,ts[i]?=some c→cs[i]?=some v→TR (zG5 w) c v∧v.oneCell'=true
theorem CT.nil:CT w [] []:=⟨rfl,fun i c v h=>by simp at h⟩
theorem CT.one{c:Tree}{v:Value}(h:TR (zG5 w) c v)(h':v.oneCell'=true):CT w [c] [v] :=
 ⟨rfl,fun i c' v' hc hv=>by
  cases i with
  |zero=>simp at hc hv;subst hc;subst hv;exact⟨h,h'⟩
  |succ i=>simp at hc⟩
theorem CT.append{a b:List Tree}{x y:List Value}(h:CT w a x)(h':CT w b y):CT w (a++b) (x++y):=by
 refine⟨by simp [h.len,h'.len],fun i c v hc hv=>?_⟩
 by_cases hi:i<a.length
 ·rw[List.getElem?_append_left hi] at hc;rw[List.getElem?_append_left (by rw[← h.len];exact hi)] at hv;exact h.val i c v hc hv
 rw[List.getElem?_append_right (by omega)] at hc;rw[List.getElem?_append_right (by rw[← h.len];omega),← h.len] at hv;exact h'.val _ c v hc hv
def zE2(s:List Nat):Prop:=s.length≤maxLen∧∀b ∈ s,b<256
structure SlOK {α:Type} (ok:α→Prop) (s:Sl α):Prop where
 all:∀a ∈ s.l,ok a
 len:s.l.length<9223372036854775808
 nl:s.nl=true→s.l=[]
 cl:s.cl=true→s.l=[]
theorem zOM{v:Value}{t:Tree}(h:CT w [t] v.cells.toList)(ho:∀cs,v≠.agg cs):TR (zG5 w) t v:=by
 cases v with
 |agg cs=>exact(ho cs rfl).elim
 |_=>exact(h.val 0 _ _ rfl rfl).1
theorem zTz{cs:Array Value}{ts:List Tree}(h:CT w ts (Value.agg cs).cells.toList):TR (zG5 w) (.agg ts) (.agg cs):=by
 have h':CT w ts cs.toList:=h;have:=TR.agg (I:=zG5 w) ts cs.toList h'.len fun i c v hc hv=>(h'.val i c v hc hv).1
 simpa using this
theorem zOH{w':World}(hk:∀b,b<w.heap.size→w'.heap[b]?=w.heap[b]?){p:MemPlace}(hp:p.block<w.heap.size):w.sameAt w' p:=by
 cases p with
 |cell b o=>exact zAd (hk b hp)
 |map b=>exact hk b hp
theorem zHA {w':World} {sp:Nat→Bool} {T:TypeId→Prop} (K:Kids P T) (hsz:∀ {t e:TypeId},T t→P.underlying t=some (.slice e)→0<P.cellsOf e) :
  ∀ {ts:List TypeId} {vs:List Value} {ds:List (DataW H)} {ps:List MemPlace},(∀t ∈ ts,T t)→DataW.TrodAll enc P w 0 (fun _=>true) true ts vs ds ps →
   (∀p ∈ ps,w.sameAt w' p)→(∀p ∈ ps,sp p.block=true)→DataW.TrodAll enc P w' 0 sp true ts vs ds ps
 |[],[],[],ps,_,h,_,_=>h
 |t::ts,v::vs,d::ds,ps,hT,h,h1,h2=>by
  obtain⟨p,q,⟨n,h3⟩,h4,rfl⟩:=h;refine⟨p,q,⟨n,?_⟩,zHA K hsz (fun t ht=>hT t (List.mem_cons_of_mem _ ht)) h4 (fun x hx=>h1 x (List.mem_append_right _ hx)) (fun x hx=>h2 x (List.mem_append_right _ hx)),rfl⟩;exact DataW.trod_stays K hsz (fun h=>by cases h) (hT t (List.mem_cons_self ..)) h3 (fun x hx=>h1 x (List.mem_append_left _ hx)) (fun x hx=>h2 x (List.mem_append_left _ hx))
theorem zH2{w':World}(hk:∀b,b<w.heap.size→w'.heap[b]?=w.heap[b]?)(hs:w'.os=w.os∧w'.output=w.output)(may:MemPlace→Prop):w.keptBut w' may:=by
 refine⟨hs.1,hs.2,fun i hi=>?_⟩;rw[hk i hi];split
 ·rename_i h1 h2;cases h1.symm.trans h2;exact⟨rfl,rfl,rfl,fun _ _=>rfl⟩
 ·rename_i h1 h2;cases h1.symm.trans h2;exact .inr ⟨rfl,rfl⟩
 rfl
theorem zW9 {f:Func} {s:ChangeSpec} {w':World} {args:Array Value} {ds gs:List (DataW H)} {before:List MemPlace} {T:TypeId→Prop} {tb:TypeId}
  (hW:DataW.Whole enc P f.params.toList s.vars false w args.toList ds gs before) (hvars:s.vars=[]) (K:Kids P T) (hsz:∀ {t e:TypeId},T t→P.underlying t=some (.slice e)→0<P.cellsOf e)
  (hT:∀t ∈ f.params.toList,T t) (hr:f.resultTypes=#[tb]) (hb:P.underlying tb=some .bool)
  (hres:(s.fn H (ds++gs)).results=[.lit (.bool true)]) (hargs:(s.fn H (ds++gs)).args=ds) (hv:(s.fn H (ds++gs)).vars=[])
  (hk:∀b,b<w.heap.size→w'.heap[b]?=w.heap[b]?) (hs:w'.os=w.os∧w'.output=w.output):s.post enc P f false true false false w args (.bool true) w':=by
 have hlt:=hW.lt;have hW':=hW;obtain⟨p,q,hA,hV,rfl,_,_⟩:=hW';refine⟨ds,gs,p++q,[],p,[],hW,?_,?_,?_,zH2 hk hs _,fun h=>by cases h⟩
 ·rw[hr,hres]
  show DataW.TrodAll enc P w' _ _ _ [tb] [.bool true] [.lit (.bool true)] []
  exact trodAll_mk1 ⟨1,by unfold DataW.trod;simp [hb,Value.cells]⟩
 ·rw[hargs];exact zHA K hsz hT hA (fun x hx=>zOH hk (hlt x (List.mem_append_left _ hx))) (fun x hx=>by simpa using hlt x (List.mem_append_left _ hx))
 rw[hvars,hv];rfl
end
end Go.Ab
namespace Go.Ab
open Go
def ub(s:List Nat):List UInt8:=s.map UInt8.ofNat
def nb(s:List UInt8):List Nat:=s.map UInt8.toNat
def zEP(x:List AV):Option AV :=
 match x with
 |[.t (.str s),.t (.int .u8 c)]=>some (.t (.int .i64 (Lib.indexByte (ub s) c.toNat.toUInt8)))
 |_=>none
def zDw(x:List AV):Option AV :=
 match x with
 |[.t (.str s),.t (.str sub)]=>bif Nat.blt s.length 4294967281 then some (.t (.bool (Lib.contains (ub s) (ub sub)))) else none
 |_=>none
def uS:List (List Tree)→Option (List (List Nat))
 |[]=>some []
 |[.str s]::es=>match uS es with
  |some l=>some (s::l)
  |none=>none
 |_=>none
def zFI(x:List AV):Option AV :=
 match x with
 |[.t (.sl _ _ es),.t (.str sep)]=>match uS es with
  |some xs=>bif Nat.ble xs.length 140737488355328&&Nat.ble (Lib.join (xs.map ub) (ub sep)).length 140737488355328 then some (.t (.str (nb (Lib.join (xs.map ub) (ub sep))))) else none
  |none=>none
 |_=>none
def zJi(x:List AV):Option AV :=
 match x with
 |[.t (.str s),.t (.str sep)]=>bif Nat.blt s.length 4294967281 then
   some (.tup [.t (.str (nb (Lib.cut (ub s) (ub sep)).1)),.t (.str (nb (Lib.cut (ub s) (ub sep)).2.1)),.t (.bool (Lib.cut (ub s) (ub sep)).2.2)]) else none
 |_=>none
def zB9(x:List AV):Option AV :=
 match x with
 |[.t (.str s),.t (.str a),.t (.str b)]=>bif Nat.blt s.length 4294967281&&Nat.ble 1 a.length&&Nat.ble (s.length+(s.length+1) * b.length) 140737488355328 then
   some (.t (.str (nb (Lib.replaceAll (ub s) (ub a) (ub b))))) else none
 |_=>none
def zCQ(x:List AV):Option AV :=
 match x with
 |[.t (.str s),.t (.str [c])]=>bif Nat.blt c 128&&Nat.ble s.length 9223372036854775807 then some (.t (.str (nb (Lib.trimRightB (ub s) (UInt8.ofNat c))))) else none
 |_=>none
def zCH(x:List AV):Option AV :=
 match x with
 |[.t (.int .i64 n),.t (.int .i64 10)]=>bif decide (-9223372036854775808≤n)&&decide (n≤9223372036854775807) then some (.t (.str (nb (Lib.itoa n)))) else none
 |_=>none
def zDC(x:List AV):Option AV :=
 match x with
 |[.t (.str s),.t (.int .i64 10),.t (.int .i64 64)]=>bif Nat.ble s.length 281474976710656 then
   (match Lib.parseIntB 64 (ub s) with
   |.ok v=>some (.tup [.t (.int .i64 v),.t .nilifc])
   |.range=>some (.tup [.t (.int .i64 (Lib.intSat 64 (ub s))),.ifx])
   |_=>some (.tup [.t (.int .i64 0),.ifx])) else none
 |_=>none
def unq:List Nat→List Nat
 |[]=>[]
 |[_]=>[]
 |c::d::r=>if c=92 then d::unq r else c::unq (d::r)
def zGO(x:List AV):Option AV :=
 match x with
 |[.t (.str s)]=>bif Nat.ble s.length 4294967296 then some (.tup [.t (.agg [.int .u8 3,.int .i64 0,.str (unq (s.drop 1))]),.t (.int .i64 0)]) else none
 |_=>none
end Go.Ab
namespace Go.Ab
def all2{α:Type}(f:α→α→Bool):List α→List α→Bool
 |[],[]=>true
 |a::l,b::r=>match f a b with
  |true=>all2 f l r
  |false=>false
 |_,_=>false
def zGB{α:Type}{f:α→α→Bool}(h:∀a b,f a b=true→a=b):∀l r,all2 f l r=true→l=r
 |[],[],_=>rfl
 |[],_::_,h=>by simp [all2] at h
 |_::_,[],h=>by simp [all2] at h
 |a::l,b::r,hx=>by
  unfold all2 at hx;split at hx
  ·rename_i hf;rw[h a b hf,zGB h l r hx]
  cases hx
def beqK:IntKind→IntKind→Bool
 |.i8,.i8|.i16,.i16|.i32,.i32|.i64,.i64|.u8,.u8|.u16,.u16|.u32,.u32|.u64,.u64=>true
 |_,_=>false
def zYM{a b:IntKind}(h:beqK a b=true):a=b:=by cases a<;>cases b<;>first|rfl|cases h
def beqI:Int→Int→Bool
 |.ofNat a,.ofNat b=>Nat.beq a b
 |.negSucc a,.negSucc b=>Nat.beq a b
 |_,_=>false
def zY7{a b:Int}(h:beqI a b=true):a=b:=by
 cases a<;>cases b<;>first|(cases h;done)|skip
 ·rw[Nat.eq_of_beq_eq_true h]
 rw[Nat.eq_of_beq_eq_true h]
def beqB:Bool→Bool→Bool
 |true,true=>true
 |false,false=>true
 |_,_=>false
def zMq{a b:Bool}(h:beqB a b=true):a=b:=by cases a<;>cases b<;>first|rfl|cases h
def beqT:Nat→Tree→Tree→Bool
 |0,_,_=>false
 |d+1,x,y=>match x,y with
  |.bool a,.bool b=>beqB a b
  |.int k n,.int k' n'=>beqK k k'&&beqI n n'
  |.str a,.str b=>beqL a b
  |.sl n c es,.sl n' c' es'=>beqB n n'&&beqB c c'&&all2 (all2 (beqT d)) es es'
  |.agg cs,.agg cs'=>all2 (beqT d) cs cs'
  |.ifc t v,.ifc t' v'=>Nat.beq t t'&&beqT d v v'
  |.nilifc,.nilifc=>true
  |.fn f,.fn g=>Nat.beq f g
  |.nilfn,.nilfn=>true
  |.nilptr,.nilptr=>true
  |.nilmap,.nilmap=>true
  |_,_=>false
def zQu:∀(d:Nat) (x y:Tree),beqT d x y=true→x=y
 |0,_,_,h=>by simp [beqT] at h
 |d+1,x,y,h=>by
  have ih:=zQu d;unfold beqT at h;split at h<;>first|(cases h;done)|skip
  ·rw[zMq h]
  ·simp only[Bool.and_eq_true] at h;rw[zYM h.1,zY7 h.2]
  ·rw[vC,decide_eq_true_eq] at h;rw[h]
  ·simp only[Bool.and_eq_true] at h;rw[zMq h.1.1,zMq h.1.2,zGB (zGB ih) _ _ h.2]
  ·rw[zGB ih _ _ h]
  ·simp only[Bool.and_eq_true] at h;rw[Nat.eq_of_beq_eq_true h.1,ih _ _ h.2]
  ·rfl
  ·rw[Nat.eq_of_beq_eq_true h]
  ·rfl
  ·rfl
  rfl
def beqA:AV→AV→Bool
 |.t x,.t y=>beqT 12 x y
 |_,_=>false
def zYE(x y:AV)(h:beqA x y=true):x=y:=by
 unfold beqA at h;split at h
 ·rw[zQu _ _ _ h]
 cases h
structure Known where
 f:FuncId
 args:List AV
 r:Out
def look:List Known→Oracle
 |[],_,_,_=>none
 |e::l,f,args,h=>match Nat.beq e.f f,h with
  |true,[]=>match all2 beqA e.args args with
   |true=>some (e.r,[])
   |false=>look l f args h
  |_,_=>look l f args h
def Holds(C:Cfg)(l:List Known):Prop:=∀e ∈ l,Om C e.f e.args []=some (e.r,[])
def zMh{C:Cfg}:∀ {l:List Known},Holds C l→∀f args h r,look l f args h=some r→Om C f args h=some r
 |[],_,_,_,_,_,h=>by simp [look] at h
 |e::l,hl,f,args,h,r,hx=>by
  have ih:=zMh (l:=l) fun x hx=>hl x (List.mem_cons_of_mem _ hx)
  unfold look at hx;split at hx
  ·rename_i hf;split at hx
   ·rename_i ha;cases hx;have:=Nat.eq_of_beq_eq_true hf;have h2:=zGB zYE _ _ ha;subst this;subst h2;exact hl e (.head _)
   exact ih _ _ _ _ hx
  exact ih _ _ _ _ hx
theorem Holds.cons{C:Cfg}{l:List Known}{e:Known}(hl:Holds C l){n:Nat}(h:zI6 C (look l) n e.f e.args []=some (e.r,[])):Holds C (e::l):=fun x hx=>by
 rcases List.mem_cons.1 hx with rfl|hx
 ·exact zGh (zMh hl) h
 exact hl x hx
theorem Holds.nil{C:Cfg}:Holds C []:=fun _ h=>by cases h
end Go.Ab
