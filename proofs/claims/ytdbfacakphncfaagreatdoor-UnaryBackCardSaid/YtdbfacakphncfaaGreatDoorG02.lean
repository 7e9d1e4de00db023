/- Lemmas. -/
import Derived.Test.YtdbfacakphncfaaGreatDoorG01
import Derived.Deep.Slices
import Derived.ChangeStays
import Derived.ChangeSame
import Derived.ChangeOld
import Derived.OpenShut
import Derived.Lib.IndexMore
import Derived.Lib.Join
import Derived.Lib.Replace
import Derived.Lib.TrimByte
import Derived.Lib.ItoaNum
import Derived.Lib.Bytealg
import Derived.Lib.ParseIntB
set_option maxRecDepth 1000000
set_option maxHeartbeats 40000000
set_option linter.all false
namespace Go.Ab
def zB6(a b:Nat):Nat.blt a b=decide (a<b):=by
 cases h:Nat.blt a b with
 |true=>rw[Nat.blt_eq] at h;simp [h]
 |false =>
  have:¬ a<b:=fun hh=>by rw[← Nat.blt_eq,h] at hh;cases hh
  simp [this]
def uG(a b:Nat):Nat.beq a b=decide (a=b):=by
 cases h:Nat.beq a b with
 |true=>simp [Nat.eq_of_beq_eq_true h]
 |false=>simp [Nat.ne_of_beq_eq_false h]
def xS(v:Value):zLh (pure v)=vI v:=rfl
def uW(C:Cfg)(f:FuncId)(x:Tree)(h:Heap):yW C f 0 (.t x) h=some (.t x,[]):=by
 unfold yW;cases C.thaw f<;>rfl
def jO{α:Type}(l:List α)(n:Nat):idx l (n:Int)=l[n]?:=by
 show nth l n=_
 exact yP l n
def wrap64{x:Int}(h:-9223372036854775808≤x)(h':x<9223372036854775808):IntKind.i64.wrap x=x:=by
 simp only[IntKind.wrap,IntKind.signed,IntKind.bits];simp only[Bool.true_and];split<;>rename_i h1<;>simp at h1<;>omega
section
variable (P:Program) (t:TypeId) (a b:Int)
theorem wI64(n:Nat)(h:n<9223372036854775807):IntKind.i64.wrap ((n:Int)+1)=((n+1:Nat):Int):=by rw[wrap64]<;>omega
theorem zAH:binop P .add t (.t (.int .i64 a)) (.t (.int .i64 b))=some (.t (.int .i64 (IntKind.i64.wrap (a+b)))):=rfl
theorem zAs:binop P .sub t (.t (.int .i64 a)) (.t (.int .i64 b))=some (.t (.int .i64 (IntKind.i64.wrap (a - b)))):=rfl
theorem zAq:binop P .mul t (.t (.int .i64 a)) (.t (.int .i64 b))=some (.t (.int .i64 (IntKind.i64.wrap (a * b)))):=rfl
theorem zAJ(k:IntKind):binop P .lss t (.t (.int k a)) (.t (.int k b))=some (.t (.bool (decide (a<b)))):=by
 simp [binop,Go.binOp,Op.intCmp,xS,vI]
theorem zAA(k:IntKind):binop P .leq t (.t (.int k a)) (.t (.int k b))=some (.t (.bool (decide (a≤b)))):=by
 simp [binop,Go.binOp,Op.intCmp,xS,vI]
theorem zAy(k:IntKind):binop P .gtr t (.t (.int k a)) (.t (.int k b))=some (.t (.bool (decide (a > b)))):=by
 simp [binop,Go.binOp,Op.intCmp,xS,vI]
theorem zAE(k:IntKind):binop P .geq t (.t (.int k a)) (.t (.int k b))=some (.t (.bool (decide (a ≥ b)))):=by
 simp [binop,Go.binOp,Op.intCmp,xS,vI]
theorem zAF(k:IntKind):binop P .eql t (.t (.int k a)) (.t (.int k b))=some (.t (.bool (a==b))):=by
 simp [binop,Go.binOp,Op.intCmp,xS,vI]
theorem zAt(k:IntKind):binop P .neq t (.t (.int k a)) (.t (.int k b))=some (.t (.bool (a != b))):=by
 simp [binop,Go.binOp,Op.intCmp,xS,vI]
theorem zAm(x y:List Nat):binop P .eql t (.t (.str x)) (.t (.str y))=some (.t (.bool (beqL x y))):=rfl
theorem zAI(x y:List Nat):binop P .neq t (.t (.str x)) (.t (.str y))=some (.t (.bool (!beqL x y))):=rfl
theorem jD(x:Bool):unop .not (.t (.bool x))=some (.t (.bool (!x))):=by
 simp [unop,scal,Op.unary,xS,vI]
theorem jF(x y:Bool)(h:und P t=some .bool):binop P .eql t (.t (.bool x)) (.t (.bool y))=some (.t (.bool (x==y))):=by
 simp only[binop,h]
theorem kY(x y:Bool)(h:und P t=some .bool):binop P .neq t (.t (.bool x)) (.t (.bool y))=some (.t (.bool (!(x==y)))):=by
 simp only[binop,h]
end
def zMk(P:Program)(eq:TypeId→Tree→Tree→Option Bool)(u off:Nat)(xs ys:List Tree)(hy:Option Bool):Option Bool :=
 match zF5 P u xs off,zF5 P u ys off with
 |some x,some y=>match eq u x y with
  |some true=>hy
  |some false=>some false
  |none=>none
 |_,_=>none
section
variable (P:Program) (t:TypeId) (d:Nat)
theorem zUe(k:IntKind)(a b:Int)(h:und P t=some (.int k)):equal P (d+1) t (.int k a) (.int k b)=some (a==b):=by
 simp only[equal,h,if_true]
theorem yGO(a b:List Nat)(h:und P t=some .string):equal P (d+1) t (.str a) (.str b)=some (beqL a b):=by
 simp only[equal,h]
theorem zQW(xs ys:List Tree)(h:zCL P 50 t=false):binop P .eql t (.t (.agg xs)) (.t (.agg ys))=(equal P 100 t (.agg xs) (.agg ys)).map fun b=>.t (.bool b):=by
 simp only[binop,h,Bool.false_eq_true,if_false]
theorem yIu(x:Bool)(r:Bool):(match (some x:Option Bool) with|some true=>some r|some false=>some false|none=>none)=some (x&&r):=by cases x<;>rfl
end
section
variable {C:Cfg} {m k:Nat} {keep:Nat→Option (List Nat)} {st:St} {Q:Ex→St→Prop} {b:Code} {ks:Option (List Nat)} {Inv:Nat→St→Prop} {d:Nat}
theorem zAx(h:W C m k keep b st Q):zD9 C m k keep b Q .normal st:=h
theorem zB5{id:Nat}(h:Q (.exit id) st):zD9 C m k keep b Q (.exit id) st:=h
theorem zCS(h:Q .ret st):zD9 C m k keep b Q .ret st:=h
theorem zCU{v:AV}(h:Q (.pan v) st):zD9 C m k keep b Q (.pan v) st:=h
theorem zAK{id:Nat}(h:Q .normal st):zB2 id Q .normal st:=h
theorem zCT{id:Nat}(h:Q .ret st):zB2 id Q .ret st:=h
theorem zCX{id:Nat}{v:AV}(h:Q (.pan v) st):zB2 id Q (.pan v) st:=h
theorem zDN{id:Nat}(h:Q .normal st):zB2 id Q (.exit id) st:=by
 show if id=id then Q .normal st else Q (.exit id) st
 rw[if_pos rfl];exact h
theorem zDW{id id':Nat}(hn:Nat.beq id' id=false)(h:Q (.exit id') st):zB2 id Q (.exit id') st:=by
 show if id'=id then Q .normal st else Q (.exit id') st
 rw[if_neg (Nat.ne_of_beq_eq_false hn)];exact h
theorem zLM {id:Nat} {hC:Array Oper} {T:Env} {h:Heap} (hd:uQ k hC.toList=true) (hr:xR C (Om C) k hC.toList hC.toList st.T st.h=some (none,T,h)) (hq:Q .normal ⟨T,h⟩) :
  W C m k keep (.region id hC false) st Q:=zKs (by simp only[region,hd,hr]) hq
theorem zYy {id:Nat} {hC:Array Oper} {l:List Rec} {T:Env} {h:Heap} (hs:zCl hC.toList=true) (hd:uQ k hC.toList=true) (hr:xJ C (Om C) hC.toList hC.toList st.T st.h=some (l,T,h))
  (hc:calm (masks hC.toList) (zA8 (uN 0 l))=true) (hq:Q .normal ⟨T,h⟩) :
  W C m k keep (.region id hC true) st Q:=zKs (by simp only[region,hd,hs,hr,hc]) hq
end
section
variable {C:Cfg} {m k:Nat} {keep:Nat→Option (List Nat)} {st:St} {Q:Ex→St→Prop} {b:Code}
def again{α:Type}(m k:Nat)(ks:Option (List Nat))(S:α→St)(μ:α→Nat)(P:α→Prop)(a:α)(Q:Ex→St→Prop):Ex→St→Prop
 |.normal,st=>∃a',μ a' < μ a∧P a'∧tidy m k ks st=some (S a')
 |e,st=>Q e st
theorem yE {α:Type} (S:α→St) (μ:α→Nat) (P:α→Prop) (a0:α) (h0:tidy m k (xP keep b) st=some (S a0)) (p0:P a0)
  (step:∀a,P a→W C m k keep b (S a) (again m k (xP keep b) S μ P a Q)):W C m k keep (.loop b) st Q:=by
 refine yGe (fun d st=>∃a,μ a=d∧P a∧st=S a) (μ a0) h0 ⟨a0,rfl,p0,rfl⟩ fun d st1 h=>?_
 obtain⟨a,rfl,hp,rfl⟩:=h;refine(step a hp).mono fun e st2 hq=>?_
 cases e with
 |normal=>obtain⟨a',h1,h2,h3⟩:=hq;exact⟨_,h1,_,h3,a',rfl,h2,rfl⟩
 |exit id=>exact hq
 |ret=>exact hq
 |pan v=>exact hq
variable {α:Type} {ks:Option (List Nat)} {S:α→St} {μ:α→Nat} {P:α→Prop} {a:α}
theorem zBW{id:Nat}(h:Q (.exit id) st):again m k ks S μ P a Q (.exit id) st:=h
theorem zCE(h:Q .ret st):again m k ks S μ P a Q .ret st:=h
theorem zCF{v:AV}(h:Q (.pan v) st):again m k ks S μ P a Q (.pan v) st:=h
theorem zD(a':α)(h1:μ a' < μ a)(h2:P a')(h3:tidy m k ks st=some (S a')):again m k ks S μ P a Q .normal st:=⟨a',h1,h2,h3⟩
end
def Ends'(C:Cfg)(f:FuncId)(fn:Func)(m:Nat)(v':AV)(h':Heap):Ex→St→Prop
 |.normal,st=>yK fn.ntmps st.T=some []∧∃v,results C.P fn st=some v∧yW C f m v st.h=some (v',h')
 |.ret,st=>yK fn.ntmps st.T=some []∧∃v,results C.P fn st=some v∧yW C f m v st.h=some (v',h')
 |_,_=>False
def zL {C:Cfg} {f:FuncId} {fn:Func} {c:Code} {args:List AV} {h:Heap} {v':AV} {h':Heap} (hf:nth C.P.funcs.toList f=some fn) (hb:fn.body=some c)
  (hw:W C h.length fn.ntmps (C.keep f) c ⟨zT 0 args,h⟩ (Ends' C f fn h.length v' h')) (hn:Nat.ble args.length fn.ntmps=true:=by kernel_rfl):Om C f args h=some (.val v',h'):=by
 obtain⟨o,h1,h2,rfl,rfl⟩:=xU (R:=fun o h1=>o=.val v'∧h1=h') hf hb (hw.mono fun e st hq=>by
  cases e with
  |normal=>obtain⟨h0,v,h1,h2⟩:=hq;exact⟨h0,v,h1,v',h',h2,rfl,rfl⟩
  |ret=>obtain⟨h0,v,h1,h2⟩:=hq;exact⟨h0,v,h1,v',h',h2,rfl,rfl⟩
  |exit id=>exact hq
  |pan v=>exact hq.elim) hn
 exact h2
structure Sl (α:Type) where
 nl:Bool
 cl:Bool
 l:List α
def Sl.t{α:Type}(f:α→List Tree)(s:Sl α):Tree:=.sl s.nl s.cl (s.l.map f)
structure Val where
 k:Int
 n:Int
 s:List Nat
 deriving DecidableEq
def Val.c(v:Val):List Tree:=[.int .u8 v.k,.int .i64 v.n,.str v.s]
structure Slot where
 name:List Nat
 kind:Int
def Slot.c(s:Slot):List Tree:=[.str s.name,.int .u8 s.kind]
structure Tpl where
 name:List Nat
 slots:Sl Slot
def Tpl.c(t:Tpl):List Tree:=[.str t.name,t.slots.t Slot.c]
structure Fact where
 id:Int
 tp:Int
 s:Sl Val
def Fact.c(f:Fact):List Tree:=[.int .i64 f.id,.int .i64 f.tp,f.s.t Val.c]
def qM{α:Type}(f:α→List Tree)(n:Nat)(h:∀a,(f a).length=n)(l:List α):lens n (l.map f)=true:=by
 simp [lens,h]
structure Bind where
 name:List Nat
 v:Val
 deriving DecidableEq
def Bind.c(b:Bind):List Tree:=.str b.name::b.v.c
def intC(n:Int):List Tree:=[.int .i64 n]
structure Node where
 op:Int
 v:Val
 name:List Nat
 kids:Sl Int
 line:Int
 col:Int
def Node.c(x:Node):List Tree:=[.int .u8 x.op,.int .u8 x.v.k,.int .i64 x.v.n,.str x.v.s,.str x.name,x.kids.t intC,.int .i64 x.line,.int .i64 x.col]
structure Test where
 op:Int
 a:Sl Node
 b:Sl Node
 low:Bool
 high:Bool
 kids:Sl Int
 line:Int
 col:Int
def Test.c(x:Test):List Tree:=[.int .u8 x.op,x.a.t Node.c,x.b.t Node.c,.bool x.low,.bool x.high,x.kids.t intC,.int .i64 x.line,.int .i64 x.col]
structure STest where
 slot:List Nat
 test:Sl Test
 line:Int
 col:Int
def STest.c(x:STest):List Tree:=[.str x.slot,x.test.t Test.c,.int .i64 x.line,.int .i64 x.col]
structure Pat where
 name:List Nat
 t:List Nat
 slots:Sl STest
 line:Int
 col:Int
def Pat.c(x:Pat):List Tree:=[.str x.name,.str x.t,x.slots.t STest.c,.int .i64 x.line,.int .i64 x.col]
def RW(x:Option (Option AV×Env×Heap))(Q:Option AV→Env→Heap→Prop):Prop:=∃r T h,x=some (r,T,h)∧Q r T h
def RR(x:Option (List Rec×Env×Heap))(Q:List Rec→Env→Heap→Prop):Prop:=∃l T h,x=some (l,T,h)∧Q l T h
def rwQ(Q:Ex→St→Prop):Option AV→Env→Heap→Prop
 |none,T,h=>Q .normal ⟨T,h⟩
 |some v,T,h=>Q (.pan v) ⟨T,h⟩
def one1(C:Cfg)(ρ:Oracle)(k:Nat)(hC:List Oper)(o:Oper)(hy:List Oper)(T:Env)(h:Heap):Option (Option AV×Env×Heap) :=
 match zAO o with
 |some c=>match deferred T c with
  |some d=>match kM k d T with
   |some T'=>xR C ρ k hC hy (putT T' o.dst .nov) h
   |none=>none
  |none=>none
 |none=>match exec1 C ρ (nth h) h.length T o with
  |none=>none
  |some (.pan v,p)=>some (some v,T,patch h p)
  |some (.val v,p)=>xR C ρ k hC hy (putT T o.dst v) (patch h p)
def gdL(b:Option Bool)(C:Cfg)(ρ:Oracle)(k:Nat)(hC:List Oper)(o:Oper)(hy:List Oper)(T:Env)(h:Heap):Option (Option AV×Env×Heap) :=
 match b with
 |none=>none
 |some false=>xR C ρ k hC hy (putT T o.dst .nov) h
 |some true=>one1 C ρ k hC o hy T h
def zCf (C:Cfg) (ρ:Oracle) (k:Nat) (hC:List Oper) (o:Oper) (hy:List Oper) (T:Env) (h:Heap) :
  xR C ρ k hC (o::hy) T h=gdL (wanted hC T o) C ρ k hC o hy T h:=by
 rw[xR];unfold gdL one1;rfl
def zFx(C:Cfg)(ρ:Oracle)(k:Nat)(hC:List Oper)(o:Oper)(hy:List Oper)(T:Env)(h:Heap):gdL (some true) C ρ k hC o hy T h=one1 C ρ k hC o hy T h:=rfl
def zEz(C:Cfg)(ρ:Oracle)(k:Nat)(hC:List Oper)(o:Oper)(hy:List Oper)(T:Env)(h:Heap):gdL (some false) C ρ k hC o hy T h=xR C ρ k hC hy (putT T o.dst .nov) h:=rfl
def zAe(r:Rec)(x:Option (List Rec×Env×Heap)):Option (List Rec×Env×Heap) :=
 match x with
 |none=>none
 |some (l,T,h)=>some (r::l,T,h)
def gdR(b:Option Bool)(C:Cfg)(ρ:Oracle)(hC:List Oper)(o:Oper)(hy:List Oper)(T:Env)(h:Heap):Option (List Rec×Env×Heap) :=
 match b with
 |none=>none
 |some false=>zAe ⟨[],.nov,[]⟩ (xJ C ρ hC hy (putT T o.dst .nov) h)
 |some true=>match exec1 C ρ (nth h) h.length T o with
   |none=>none
   |some (.pan _,_)=>none
   |some (.val v,p)=>match vU h.length p with
    |false=>none
    |true=>zAe ⟨foot C (nth h) T o,v,p⟩ (xJ C ρ hC hy (putT T o.dst v) (patch h p))
def zJZ (C:Cfg) (ρ:Oracle) (hC:List Oper) (o:Oper) (hy:List Oper) (T:Env) (h:Heap) :
  xJ C ρ hC (o::hy) T h=gdR (wanted hC T o) C ρ hC o hy T h:=by
 rw[xJ];unfold gdR zAe;rfl
def zOO(C:Cfg)(ρ:Oracle)(hC:List Oper)(o:Oper)(hy:List Oper)(T:Env)(h:Heap):gdR (some true) C ρ hC o hy T h=match exec1 C ρ (nth h) h.length T o with
   |none=>none
   |some (.pan _,_)=>none
   |some (.val v,p)=>match vU h.length p with
    |false=>none
    |true=>zAe ⟨foot C (nth h) T o,v,p⟩ (xJ C ρ hC hy (putT T o.dst v) (patch h p)):=rfl
def zNX(C:Cfg)(ρ:Oracle)(hC:List Oper)(o:Oper)(hy:List Oper)(T:Env)(h:Heap):gdR (some false) C ρ hC o hy T h=zAe ⟨[],.nov,[]⟩ (xJ C ρ hC hy (putT T o.dst .nov) h):=rfl
def zLD(r:Rec)(l:List Rec)(T:Env)(h:Heap):zAe r (some (l,T,h))=some (r::l,T,h):=rfl
def yH3{x y:Option (Option AV×Env×Heap)}{Q:Option AV→Env→Heap→Prop}(h:x=y)(hq:RW y Q):RW x Q:=h ▸ hq
def zQL{r:Option AV}{T:Env}{h:Heap}{Q:Option AV→Env→Heap→Prop}(hq:Q r T h):RW (some (r,T,h)) Q:=⟨r,T,h,rfl,hq⟩
def zXQ {b:Bool} {C:Cfg} {ρ:Oracle} {k:Nat} {hC:List Oper} {o:Oper} {hy:List Oper} {T:Env} {h:Heap} {Q:Option AV→Env→Heap→Prop}
  (h1:b=true→RW (one1 C ρ k hC o hy T h) Q) (h2:b=false→RW (xR C ρ k hC hy (putT T o.dst .nov) h) Q):RW (gdL (some b) C ρ k hC o hy T h) Q:=by
 cases b with
 |true=>exact h1 rfl
 |false=>exact h2 rfl
def zTE {b:Bool} {C:Cfg} {ρ:Oracle} {k:Nat} {hC:List Oper} {o:Oper} {hy:List Oper} {T:Env} {h:Heap} {Q:Option AV→Env→Heap→Prop}
  (h1:b=false→RW (one1 C ρ k hC o hy T h) Q) (h2:b=true→RW (xR C ρ k hC hy (putT T o.dst .nov) h) Q):RW (gdL (some !b) C ρ k hC o hy T h) Q:=by
 cases b with
 |true=>exact h2 rfl
 |false=>exact h1 rfl
def yIr{x y:Option (List Rec×Env×Heap)}{Q:List Rec→Env→Heap→Prop}(h:x=y)(hq:RR y Q):RR x Q:=h ▸ hq
def zQS{l:List Rec}{T:Env}{h:Heap}{Q:List Rec→Env→Heap→Prop}(hq:Q l T h):RR (some (l,T,h)) Q:=⟨l,T,h,rfl,hq⟩
def zYq {b:Bool} {C:Cfg} {ρ:Oracle} {hC:List Oper} {o:Oper} {hy:List Oper} {T:Env} {h:Heap} {Q:List Rec→Env→Heap→Prop}
  (h1:b=true→RR (match exec1 C ρ (nth h) h.length T o with
   |none=>none
   |some (.pan _,_)=>none
   |some (.val v,p)=>match vU h.length p with
    |false=>none
    |true=>zAe ⟨foot C (nth h) T o,v,p⟩ (xJ C ρ hC hy (putT T o.dst v) (patch h p))) Q) (h2:b=false→RR (zAe ⟨[],.nov,[]⟩ (xJ C ρ hC hy (putT T o.dst .nov) h)) Q):RR (gdR (some b) C ρ hC o hy T h) Q:=by
 cases b with
 |true=>exact h1 rfl
 |false=>exact h2 rfl
def zTk {b:Bool} {C:Cfg} {ρ:Oracle} {hC:List Oper} {o:Oper} {hy:List Oper} {T:Env} {h:Heap} {Q:List Rec→Env→Heap→Prop}
  (h1:b=false→RR (match exec1 C ρ (nth h) h.length T o with
   |none=>none
   |some (.pan _,_)=>none
   |some (.val v,p)=>match vU h.length p with
    |false=>none
    |true=>zAe ⟨foot C (nth h) T o,v,p⟩ (xJ C ρ hC hy (putT T o.dst v) (patch h p))) Q) (h2:b=true→RR (zAe ⟨[],.nov,[]⟩ (xJ C ρ hC hy (putT T o.dst .nov) h)) Q):RR (gdR (some !b) C ρ hC o hy T h) Q:=by
 cases b with
 |true=>exact h2 rfl
 |false=>exact h1 rfl
def zQQ{r:Rec}{x:Option (List Rec×Env×Heap)}{Q:List Rec→Env→Heap→Prop}(h:RR x fun l T h=>Q (r::l) T h):RR (zAe r x) Q:=by
 obtain⟨l,T,h',rfl,h2⟩:=h;exact⟨_,_,_,rfl,h2⟩
section
variable {C:Cfg} {m k:Nat} {keep:Nat→Option (List Nat)} {st:St} {Q:Ex→St→Prop}
theorem yFy {id:Nat} {hC:Array Oper} (hd:uQ k hC.toList=true) (hr:RW (xR C (Om C) k hC.toList hC.toList st.T st.h) (rwQ Q)) :
  W C m k keep (.region id hC false) st Q:=by
 obtain⟨r,T,h,h1,h2⟩:=hr;cases r with
 |none=>exact zLM hd h1 h2
 |some v=>exact zKs (e:=.pan v) (st':=⟨T,h⟩) (by simp only[region,hd,h1]) h2
theorem yCx {id:Nat} {hC:Array Oper} (hs:zCl hC.toList=true) (hd:uQ k hC.toList=true)
  (hr:RR (xJ C (Om C) hC.toList hC.toList st.T st.h) fun l T h=>calm (masks hC.toList) (zA8 (uN 0 l))=true∧Q .normal ⟨T,h⟩) :
  W C m k keep (.region id hC true) st Q:=by
 obtain⟨l,T,h,h1,h2,h3⟩:=hr;exact zYy hs hd h1 h2 h3
end
section
variable {C:Cfg} {m k:Nat} {keep:Nat→Option (List Nat)} {st:St} {Q:Ex→St→Prop} {b:Code}
def zD3(C:Cfg)(m k:Nat)(keep:Nat→Option (List Nat))(b:Code)(Q:Ex→St→Prop):Ex→St→Prop
 |.normal,st=>W C m k keep (.loop b) st Q
 |e,st=>Q e st
theorem zV7{st1:St}(h0:tidy m k (xP keep b) st=some st1)(h:W C m k keep b st1 (zD3 C m k keep b Q)):W C m k keep (.loop b) st Q:=by
 obtain⟨n,e,st2,h2,h3⟩:=h;cases e with
 |normal =>
  obtain⟨n',e',st4,h6,h7⟩:=h3;simp only[exec] at h6;refine⟨max n n'+1,e',st4,?_,h7⟩;simp only[exec]
  show iter (tidy m k (xP keep b)) _ _ _=_
  unfold iter;rw[h0];dsimp only;rw[uI (by omega) h2];dsimp only;obtain⟨L,s1,s2⟩:=zG8 (body:=fun ρ n st=>exec C ρ n m k keep b st) (gc:=tidy m k (xP keep b)) (fun st=>uD C m k keep b st) n' st2 (Om C) n' _ h6;exact s2 (Om C) (max n n'+1) (max n n') (by omega) (by omega) s1
 |exit id =>
  refine⟨n+1,_,st2,?_,h3⟩;simp only[exec]
  show iter (tidy m k (xP keep b)) _ _ _=_
  unfold iter;rw[h0];dsimp only;rw[uI (by omega) h2]
 |ret =>
  refine⟨n+1,_,st2,?_,h3⟩;simp only[exec]
  show iter (tidy m k (xP keep b)) _ _ _=_
  unfold iter;rw[h0];dsimp only;rw[uI (by omega) h2]
 |pan v =>
  refine⟨n+1,_,st2,?_,h3⟩;simp only[exec]
  show iter (tidy m k (xP keep b)) _ _ _=_
  unfold iter;rw[h0];dsimp only;rw[uI (by omega) h2]
theorem zBd(h:W C m k keep (.loop b) st Q):zD3 C m k keep b Q .normal st:=h
theorem zCR{id:Nat}(h:Q (.exit id) st):zD3 C m k keep b Q (.exit id) st:=h
theorem zDS(h:Q .ret st):zD3 C m k keep b Q .ret st:=h
theorem zDB{v:AV}(h:Q (.pan v) st):zD3 C m k keep b Q (.pan v) st:=h
end
structure Hid (p:Prop):Prop where
 h:p
def zDc(C:Cfg)(ρ:Oracle)(k:Nat)(hC:List Oper)(T:Env)(h:Heap):xR C ρ k hC [] T h=some (none,T,h):=by rw[xR]
def zLk(C:Cfg)(ρ:Oracle)(hC:List Oper)(T:Env)(h:Heap):xJ C ρ hC [] T h=some ([],T,h):=by rw[xJ]
def zXc{C:Cfg}{f:FuncId}{fn:Func}{m:Nat}{R:Out→Heap→Prop}{st:St}{v v':AV}{h':Heap}(h1:results C.P fn st=some v)(h2:yW C f m v st.h=some (v',h'))(h3:R (.val v') h')(h0:yK fn.ntmps st.T=some []):ends C f fn m R .ret st :=
 ⟨h0,v,h1,v',h',h2,h3⟩
def zP7{C:Cfg}{f:FuncId}{fn:Func}{m:Nat}{R:Out→Heap→Prop}{st:St}{v v':AV}{h':Heap}(h1:results C.P fn st=some v)(h2:yW C f m v st.h=some (v',h'))(h3:R (.val v') h')(h0:yK fn.ntmps st.T=some []):ends C f fn m R .normal st :=
 ⟨h0,v,h1,v',h',h2,h3⟩
def zWe{C:Cfg}{f:FuncId}{fn:Func}{m:Nat}{R:Out→Heap→Prop}{st:St}{v v':AV}{h':Heap}(h2:yW C f m v st.h=some (v',h'))(h3:R (.pan v') h')(h0:yK fn.ntmps st.T=some []):ends C f fn m R (.pan v) st :=
 ⟨h0,v',h',h2,h3⟩
def zTH{C:Cfg}{f:FuncId}{fn:Func}{m:Nat}{st:St}{v w v':AV}{h h':Heap}(h1:results C.P fn st=some v)(h2:yW C f m v st.h=some (w,h))(h3:w=v')(h4:h=h')(h0:yK fn.ntmps st.T=some []):Ends' C f fn m v' h' .ret st :=
 ⟨h0,v,h1,by rw[h2,h3,h4]⟩
def kN(C:Cfg)(f:FuncId)(x y:Tree)(h:Heap):yW C f 0 (.tup [.t x,.t y]) h=some (.tup [.t x,.t y],[]):=by
 unfold yW;cases C.thaw f<;>rfl
def kP(C:Cfg)(f:FuncId)(x y z:Tree)(h:Heap):yW C f 0 (.tup [.t x,.t y,.t z]) h=some (.tup [.t x,.t y,.t z],[]):=by
 unfold yW;cases C.thaw f<;>rfl
def zJ {C:Cfg} {f:FuncId} {fn:Func} {c:Code} {args:List AV} {h:Heap} {α:Type} {F:α→AV} {P:α→Prop} (hf:nth C.P.funcs.toList f=some fn) (hb:fn.body=some c)
  (hw:W C h.length fn.ntmps (C.keep f) c ⟨zT 0 args,h⟩ (ends C f fn h.length fun o h'=>∃a,(o=.val (F a)∧h'=[])∧P a)) (hn:Nat.ble args.length fn.ntmps=true:=by kernel_rfl):∃a,Om C f args h=some (.val (F a),[])∧P a:=by
 obtain⟨o,h',h1,a,⟨rfl,rfl⟩,h2⟩:=xU hf hb hw hn;exact⟨a,h1,h2⟩
def jJ {C:Cfg} {f:FuncId} {fn:Func} {c:Code} {args:List AV} {h hr:Heap} {α:Type} {F:α→AV} {P:α→Prop} (hf:nth C.P.funcs.toList f=some fn) (hb:fn.body=some c)
  (hw:W C h.length fn.ntmps (C.keep f) c ⟨zT 0 args,h⟩ (ends C f fn h.length fun o h'=>∃a,(o=.val (F a)∧h'=hr)∧P a)) (hn:Nat.ble args.length fn.ntmps=true:=by kernel_rfl):∃a,Om C f args h=some (.val (F a),hr)∧P a:=by
 obtain⟨o,h',h1,a,⟨rfl,rfl⟩,h2⟩:=xU hf hb hw hn;exact⟨a,h1,h2⟩
def b00:decide (0<0)=false:=rfl
def b01:decide (0<1)=true:=rfl
def b02:decide (0<2)=true:=rfl
def b03:decide (0<3)=true:=rfl
def b04:decide (0<4)=true:=rfl
def b10:decide (1<0)=false:=rfl
def b11:decide (1<1)=false:=rfl
def b12:decide (1<2)=true:=rfl
def b13:decide (1<3)=true:=rfl
def b14:decide (1<4)=true:=rfl
def b20:decide (2<0)=false:=rfl
def b21:decide (2<1)=false:=rfl
def b22:decide (2<2)=false:=rfl
def b23:decide (2<3)=true:=rfl
def b24:decide (2<4)=true:=rfl
def b30:decide (3<0)=false:=rfl
def b31:decide (3<1)=false:=rfl
def b32:decide (3<2)=false:=rfl
def b33:decide (3<3)=false:=rfl
def b34:decide (3<4)=true:=rfl
def b40:decide (4<0)=false:=rfl
def b41:decide (4<1)=false:=rfl
def b42:decide (4<2)=false:=rfl
def b43:decide (4<3)=false:=rfl
def b44:decide (4<4)=false:=rfl
section
variable (P:Program) (t:TypeId) (k k':IntKind) (a b:Int)
theorem zAu:binop P .add t (.t (.int k a)) (.t (.int k b))=some (.t (.int k (k.wrap (a+b)))):=by simp [binop,Go.binOp,Op.intArith,xS,vI]
theorem zAw:binop P .sub t (.t (.int k a)) (.t (.int k b))=some (.t (.int k (k.wrap (a - b)))):=by simp [binop,Go.binOp,Op.intArith,xS,vI]
theorem zAo:binop P .mul t (.t (.int k a)) (.t (.int k b))=some (.t (.int k (k.wrap (a * b)))):=by simp [binop,Go.binOp,Op.intArith,xS,vI]
theorem zI7(h:b≠0):binop P .quo t (.t (.int k a)) (.t (.int k b))=some (.t (.int k (k.wrap (a.tdiv b)))):=by simp [binop,Go.binOp,Op.intDiv,xS,vI,h]
theorem zQP(h:b≠0):binop P .rem t (.t (.int k a)) (.t (.int k b))=some (.t (.int k (a.tmod b))):=by simp [binop,Go.binOp,Op.intDiv,xS,vI,h]
def zC9(op:BinOp)(k:IntKind)(a b:Int):Int:=match op with
 |.and=>k.wrap (BitVec.ofInt k.bits a &&& BitVec.ofInt k.bits b).toNat
 |.or=>k.wrap (BitVec.ofInt k.bits a ||| BitVec.ofInt k.bits b).toNat
 |.xor=>k.wrap (BitVec.ofInt k.bits a ^^^ BitVec.ofInt k.bits b).toNat
 |_=>k.wrap (BitVec.ofInt k.bits a &&& ~~~ BitVec.ofInt k.bits b).toNat
theorem zAn:binop P .and t (.t (.int k a)) (.t (.int k b))=some (.t (.int k (zC9 .and k a b))):=by simp [binop,Go.binOp,Op.intBits,xS,vI,zC9]
theorem zBv:binop P .or t (.t (.int k a)) (.t (.int k b))=some (.t (.int k (zC9 .or k a b))):=by simp [binop,Go.binOp,Op.intBits,xS,vI,zC9]
theorem zAN:binop P .xor t (.t (.int k a)) (.t (.int k b))=some (.t (.int k (zC9 .xor k a b))):=by simp [binop,Go.binOp,Op.intBits,xS,vI,zC9]
theorem yBq(h:0≤b):binop P .shl t (.t (.int k a)) (.t (.int k' b))=some (.t (.int k (k.wrap (a * 2 ^ min b.toNat k.bits)))):=by
 simp [binop,Go.binOp,Op.shift,xS,vI,Int.not_lt.2 h]
theorem zMG(h:0≤b):binop P .shr t (.t (.int k a)) (.t (.int k' b))=some (.t (.int k (a.fdiv (2 ^ min b.toNat k.bits)))):=by
 simp [binop,Go.binOp,Op.shift,xS,vI,Int.not_lt.2 h]
theorem zMQ(n:Nat)(hn:n<64):binop P .shr t (.t (.int .u64 a)) (.t (.int k' (n:Int)))=some (.t (.int .u64 (a / 2 ^ n))):=by
 rw[zMG P t .u64 k' a n (by omega)];have h1:min (n:Int).toNat IntKind.u64.bits=n:=by simp [IntKind.bits];omega
 rw[h1,Int.fdiv_eq_ediv_of_nonneg _ (Int.pow_nonneg (by decide))]
theorem qT:binop P .shr t (.t (.int .u64 a)) (.t (.int k' 32))=some (.t (.int .u64 (a / 4294967296))):=zMQ P t k' a 32 (by decide)
theorem qO:binop P .shr t (.t (.int .u64 a)) (.t (.int k' 16))=some (.t (.int .u64 (a / 65536))):=zMQ P t k' a 16 (by decide)
theorem kW:binop P .shr t (.t (.int .u64 a)) (.t (.int k' 8))=some (.t (.int .u64 (a / 256))):=zMQ P t k' a 8 (by decide)
theorem zAC:unop .neg (.t (.int k a))=some (.t (.int k (k.wrap (0 - a)))):=by simp [unop,scal,Op.unary,Op.intArith,xS,vI]
theorem zAM(x y:List Nat):binop P .lss t (.t (.str x)) (.t (.str y))=some (.t (.bool (bytesLess x y))):=rfl
theorem zAk(x y:List Nat):binop P .gtr t (.t (.str x)) (.t (.str y))=some (.t (.bool !(bytesLess x y||beqL x y))):=rfl
theorem zAl(x y:List Nat):binop P .leq t (.t (.str x)) (.t (.str y))=some (.t (.bool (bytesLess x y||beqL x y))):=rfl
theorem zAD(x y:List Nat):binop P .geq t (.t (.str x)) (.t (.str y))=some (.t (.bool !(bytesLess x y))):=rfl
end
def U64(n:Int):Prop:=0≤n∧n<18446744073709551616
def zDK(x:Int):IntKind.u64.wrap x=x % 18446744073709551616:=by simp [IntKind.wrap,IntKind.signed,IntKind.bits]
def zAT(x:Int):U64 (IntKind.u64.wrap x):=by rw[zDK];unfold U64;omega
def R64(n:Int):Prop:=-9223372036854775808≤n∧n<9223372036854775808
def zG6(x:Int):R64 (IntKind.i64.wrap x):=by
 simp only[R64,IntKind.wrap,IntKind.signed,IntKind.bits,Bool.true_and];split<;>rename_i h1<;>simp at h1<;>omega
def yA0:R64 0∧R64 1:=by simp [R64]
class Fol (p:Prop) (q:outParam Prop):Prop where
 h:q→p
def aA{p q:Prop}[s:Fol p q](h:q):p:=s.h h
section
variable {C:Cfg} {m k:Nat} {keep:Nat→Option (List Nat)} {st:St} {Q:Ex→St→Prop} {a b:Code} {id:Nat} {v:AV}
instance:Fol (zD3 C m k keep b Q .normal st) (W C m k keep (.loop b) st Q):=⟨zBd⟩
instance:Fol (zD3 C m k keep b Q (.exit id) st) (Q (.exit id) st):=⟨zCR⟩
instance:Fol (zD3 C m k keep b Q .ret st) (Q .ret st):=⟨zDS⟩
instance:Fol (zD3 C m k keep b Q (.pan v) st) (Q (.pan v) st):=⟨zDB⟩
instance:Fol (zD9 C m k keep b Q .normal st) (W C m k keep b st Q):=⟨zAx⟩
instance:Fol (zD9 C m k keep b Q (.exit id) st) (Q (.exit id) st):=⟨zB5⟩
instance:Fol (zD9 C m k keep b Q .ret st) (Q .ret st):=⟨zCS⟩
instance:Fol (zD9 C m k keep b Q (.pan v) st) (Q (.pan v) st):=⟨zCU⟩
instance:Fol (zB2 id Q .normal st) (Q .normal st):=⟨zAK⟩
instance:Fol (zB2 id Q (.exit id) st) (Q .normal st):=⟨zDN⟩
instance:Fol (zB2 id Q .ret st) (Q .ret st):=⟨zCT⟩
instance:Fol (zB2 id Q (.pan v) st) (Q (.pan v) st):=⟨zCX⟩
instance:Fol (W C m k keep (.seq a b) st Q) (W C m k keep a st (zD9 C m k keep b Q)):=⟨zFJ⟩
instance:Fol (W C m k keep (.block id b) st Q) (W C m k keep b st (zB2 id Q)):=⟨zFa⟩
instance:Fol (W C m k keep (.scope b) st Q) (W C m k keep b st Q):=⟨zFe⟩
instance:Fol (W C m k keep .skip st Q) (Q .normal st):=⟨zGE⟩
instance:Fol (W C m k keep .ret st Q) (Q .ret st):=⟨zJB⟩
instance:Fol (W C m k keep (.exit id) st Q) (Q (.exit id) st):=⟨zGO⟩
instance:Fol (W C m k keep (.label id) st Q) (Q .normal st):=⟨zFg⟩
instance {T:Env} {h:Heap}:Fol (rwQ Q none T h) (Q .normal ⟨T,h⟩):=⟨fun h=>h⟩
instance {T:Env} {h:Heap}:Fol (rwQ Q (some v) T h) (Q (.pan v) ⟨T,h⟩):=⟨fun h=>h⟩
section
variable {α:Type} {ks:Option (List Nat)} {S:α→St} {μ:α→Nat} {P:α→Prop} {a:α}
instance:Fol (again m k ks S μ P a Q (.exit id) st) (Q (.exit id) st):=⟨zBW⟩
instance:Fol (again m k ks S μ P a Q .ret st) (Q .ret st):=⟨zCE⟩
instance:Fol (again m k ks S μ P a Q (.pan v) st) (Q (.pan v) st):=⟨zCF⟩
end
theorem aB {hC:Array Oper} (hr:RW (xR C (Om C) k hC.toList hC.toList st.T st.h) (rwQ Q)) (hd:uQ k hC.toList=true:=by kernel_rfl) :
  W C m k keep (.region id hC false) st Q:=yFy hd hr
theorem aC {hC:Array Oper} (hr:RR (xJ C (Om C) hC.toList hC.toList st.T st.h) fun l T h=>calm (masks hC.toList) (zA8 (uN 0 l))=true∧Q .normal ⟨T,h⟩)
  (hs:zCl hC.toList=true:=by kernel_rfl) (hd:uQ k hC.toList=true:=by kernel_rfl):W C m k keep (.region id hC true) st Q:=yCx hs hd hr
theorem aG{id':Nat}(h:Q (.exit id') st)(hn:Nat.beq id' id=false:=by kernel_rfl):zB2 id Q (.exit id') st:=zDW hn h
theorem aI{st1:St}(h:W C m k keep b st1 (zD3 C m k keep b Q))(h0:tidy m k (xP keep b) st=some st1:=by(simp only[xP,wK,F_,tidy,zBY,canon,reach,wT,refs,vS,catMap,depth,renL,ren,renO,sub,sub1,upto,mem,place,fresh,cond_true,Ab.get,nth,List.map,List.zip_cons_cons,List.zip_nil_left,List.zip_nil_right,List.take,List.append_nil,List.nil_append,List.cons_append,Bool.and_true,uG,decide_true,decide_false,reduceIte,Nat.reduceEqDiff,Nat.beq,Sl.t,Val.c,Slot.c,Tpl.c,Fact.c,Bind.c,Node.c,Test.c,STest.c,Pat.c,intC,Nat.zero_add,Nat.reduceAdd]<;>exact rfl)):W C m k keep (.loop b) st Q:=zV7 h0 h
theorem aTd{p:Prop}(h:p:=by(simp only[xP,wK,F_,tidy,zBY,canon,reach,wT,refs,vS,catMap,depth,renL,ren,renO,sub,sub1,upto,mem,place,fresh,cond_true,Ab.get,nth,List.map,List.zip_cons_cons,List.zip_nil_left,List.zip_nil_right,List.take,List.append_nil,List.nil_append,List.cons_append,Bool.and_true,uG,decide_true,decide_false,reduceIte,Nat.reduceEqDiff,Nat.beq,Sl.t,Val.c,Slot.c,Tpl.c,Fact.c,Bind.c,Node.c,Test.c,STest.c,Pat.c,intC]<;>exact rfl)):p:=h
theorem aTdX{p:Prop}(h:p:=by(simp only[xP,wK,F_,tidy,zBY,canon,reach,wT,refs,vS,catMap,depth,renL,ren,renO,sub,sub1,upto,mem,place,fresh,cond_true,Ab.get,nth,List.map,List.zip_cons_cons,List.zip_nil_left,List.zip_nil_right,List.take,List.append_nil,List.nil_append,List.cons_append,Bool.and_true,uG,decide_true,decide_false,reduceIte,Nat.reduceEqDiff,Nat.beq,Sl.t,Val.c,Slot.c,Tpl.c,Fact.c,Bind.c,Node.c,Test.c,STest.c,Pat.c,intC,X_]<;>exact rfl)):p:=h
end
section
variable {C:Cfg} {f:FuncId} {fn:Func} {m:Nat} {R:Out→Heap→Prop} {st:St} {v v' w:AV} {h h':Heap}
theorem aJ (h3:R (.val v') h') (h1:results C.P fn st=some v:=by(simp only[zBe,results,qC,zAZ,Ab.get,Nat.beq,load,loadCells,nth,cut,mkAgg,trees,Option.map_some,List.map_cons,List.map_nil,List.length_cons,List.length_nil,List.take,List.drop,Nat.zero_add,Nat.add_zero,Nat.reduceAdd,Nat.reduceLeDiff,if_true,F_, *];exact rfl))
  (h2:yW C f m v st.h=some (v',h'):=by(first|exact uW _ _ _ _|exact kN _ _ _ _ _|exact kP _ _ _ _ _ _|(simp only[yW,kR,uX,yO,view,elems,xF,patch,put1,catMap,canon,reach,wT,refs,vS,depth,renL,ren,renO,sub,sub1,upto,mem,place,fresh,cond_true,Ab.get,nth,List.map,List.take,List.length_cons,List.length_nil,List.append_nil,List.nil_append,List.cons_append,Bool.and_true,uG,decide_true,decide_false,reduceIte,Nat.reduceEqDiff,Nat.reduceAdd,Nat.zero_add,Nat.beq,mkAgg,trees,if_true,F_]<;>exact rfl)|kernel_rfl))
  (h0:yK fn.ntmps st.T=some []:=by kernel_rfl):ends C f fn m R .ret st:=zXc h1 h2 h3 h0
theorem aL (h3:R (.val v') h') (h1:results C.P fn st=some v:=by(simp only[zBe,results,qC,zAZ,Ab.get,Nat.beq,load,loadCells,nth,cut,mkAgg,trees,Option.map_some,List.map_cons,List.map_nil,List.length_cons,List.length_nil,List.take,List.drop,Nat.zero_add,Nat.add_zero,Nat.reduceAdd,Nat.reduceLeDiff,if_true,F_, *];exact rfl))
  (h2:yW C f m v st.h=some (v',h'):=by(first|exact uW _ _ _ _|exact kN _ _ _ _ _|exact kP _ _ _ _ _ _|(simp only[yW,kR,uX,yO,view,elems,xF,patch,put1,catMap,canon,reach,wT,refs,vS,depth,renL,ren,renO,sub,sub1,upto,mem,place,fresh,cond_true,Ab.get,nth,List.map,List.take,List.length_cons,List.length_nil,List.append_nil,List.nil_append,List.cons_append,Bool.and_true,uG,decide_true,decide_false,reduceIte,Nat.reduceEqDiff,Nat.reduceAdd,Nat.zero_add,Nat.beq,mkAgg,trees,if_true,F_]<;>exact rfl)|kernel_rfl))
  (h0:yK fn.ntmps st.T=some []:=by kernel_rfl):ends C f fn m R .normal st:=zP7 h1 h2 h3 h0
theorem aM (h3:R (.pan v') h')
  (h2:yW C f m v st.h=some (v',h'):=by(first|exact uW _ _ _ _|exact kN _ _ _ _ _|exact kP _ _ _ _ _ _|(simp only[yW,kR,uX,yO,view,elems,xF,patch,put1,catMap,canon,reach,wT,refs,vS,depth,renL,ren,renO,sub,sub1,upto,mem,place,fresh,cond_true,Ab.get,nth,List.map,List.take,List.length_cons,List.length_nil,List.append_nil,List.nil_append,List.cons_append,Bool.and_true,uG,decide_true,decide_false,reduceIte,Nat.reduceEqDiff,Nat.reduceAdd,Nat.zero_add,Nat.beq,mkAgg,trees,if_true,F_]<;>exact rfl)|kernel_rfl))
  (h0:yK fn.ntmps st.T=some []:=by kernel_rfl):ends C f fn m R (.pan v) st:=zWe h2 h3 h0
theorem aK (h3:w=v') (h4:h=h') (h1:results C.P fn st=some v:=by(simp only[zBe,results,qC,zAZ,Ab.get,Nat.beq,load,loadCells,nth,cut,mkAgg,trees,Option.map_some,List.map_cons,List.map_nil,List.length_cons,List.length_nil,List.take,List.drop,Nat.zero_add,Nat.add_zero,Nat.reduceAdd,Nat.reduceLeDiff,if_true,F_, *];exact rfl))
  (h2:yW C f m v st.h=some (w,h):=by(first|exact uW _ _ _ _|exact kN _ _ _ _ _|exact kP _ _ _ _ _ _|(simp only[yW,kR,uX,yO,view,elems,xF,patch,put1,catMap,canon,reach,wT,refs,vS,depth,renL,ren,renO,sub,sub1,upto,mem,place,fresh,cond_true,Ab.get,nth,List.map,List.take,List.length_cons,List.length_nil,List.append_nil,List.nil_append,List.cons_append,Bool.and_true,uG,decide_true,decide_false,reduceIte,Nat.reduceEqDiff,Nat.reduceAdd,Nat.zero_add,Nat.beq,mkAgg,trees,if_true,F_]<;>exact rfl)|kernel_rfl))
  (h0:yK fn.ntmps st.T=some []:=by kernel_rfl):Ends' C f fn m v' h' .ret st:=zTH h1 h2 h3 h4 h0
end
section
variable {b:Bool} {C:Cfg} {ρ:Oracle} {hC:List Oper} {o:Oper} {hy:List Oper} {T:Env} {h:Heap}
instance {r:Option AV} {Q:Option AV→Env→Heap→Prop}:Fol (RW (some (r,T,h)) Q) (Q r T h):=⟨zQL⟩
instance {Q:List Rec→Env→Heap→Prop} {r:Rec} {x:Option (List Rec×Env×Heap)}:Fol (RR (zAe r x) Q) (RR x fun l T h=>Q (r::l) T h):=⟨zQQ⟩
theorem aE{x y:Option (Option AV×Env×Heap)}{Q:Option AV→Env→Heap→Prop}(hq:RW y Q)(h:x=y:=by(simp only[beq_true,beq_false,Bool.true_beq,Bool.false_beq,decide_true,decide_false,Int.ofNat_eq_natCast,List.length_map,List.getElem?_map,Option.map_some,wanted,exec1,zBQ,jB,xBox,jM,vH,xLen,kD,uC,wG,jH,cellsOf,zN,opds,kI,get,putT,ret,retO,lit,lit1,patch,put1,load,loadCells,cut,yC,mkAgg,trees,nth,lenOf,indexAddr,storeAt,upd,splice,vZ,uT,zBe,jF,kY,zAH,zAs,zAq,qT,qO,kW,convert,zAu,zAw,zAo,zAn,zBv,zAN,zAC,zAM,zAk,zAl,zAD,qQ,zAJ,zAA,zAy,zAE,zAF,zAt,zAm,zAI,jD,jO,Nat.beq,beq_self_eq_true,Nat.zero_add,Nat.add_zero,List.toList_toArray,List.map_cons,List.map_nil,List.length_cons,List.length_nil,List.take,List.drop,List.all_cons,List.all_nil,List.cons_append,List.nil_append,List.append_nil,Bool.and_true,Bool.true_and,Bool.not_true,Bool.not_false,Bool.and_self,if_true,if_false,reduceIte,Nat.reduceAdd,Nat.reduceLeDiff,Nat.reduceEqDiff,Sl.t,Val.c,Slot.c,Tpl.c,Fact.c,Bind.c,Node.c,Test.c,STest.c,Pat.c,intC,and_self,true_and,and_true,b00,b01,b02,b03,b04,b10,b11,b12,b13,b14,b20,b21,b22,b23,b24,b30,b31,b32,b33,b34,b40,b41,b42,b43,b44,jL,vY,reach,wT,refs,vS,catMap,depth,sub,sub1,renL,ren,renO,mem,place,fresh,xM,plain,zBm,back,zC3,zB4,vE,Way.id,Way.ver,vN,zCq,getN,view,yO,xF,zCy,zX,ne_eq,not_false_eq_true,cond_true,cond_false,zB6,Option.getD_some,elems,yN,wU,xA,wI,wI.go,zAf,qJ,setN,List.replicate,Nat.mul_one,Nat.reduceMul,Nat.reduceLT,append,added,lens,jQ,zCf,zDc,zFx,zEz,mfind,kQ,zAP,UInt8.reduceToNat,zBE,Ab.bound,Int.toNat_natCast,bne_self_eq_false,true_or,Nat.reduceLT,one1,zAO,deferred,kM,yK,zBw,kT,zBB,qV,qA,vT,zCe,zCu,zD4,zD6,uY,Bool.or_true,Bool.or_false,Bool.true_or,Bool.false_or,F_, *];exact rfl)):RW x Q:=h ▸ hq
theorem aF{x y:Option (List Rec×Env×Heap)}{Q:List Rec→Env→Heap→Prop}(hq:RR y Q)(h:x=y:=by(simp only[beq_true,beq_false,Bool.true_beq,Bool.false_beq,decide_true,decide_false,Int.ofNat_eq_natCast,List.length_map,List.getElem?_map,Option.map_some,wanted,exec1,zBQ,jB,xBox,jM,vH,xLen,kD,uC,wG,jH,cellsOf,zN,opds,kI,get,putT,ret,retO,lit,lit1,patch,put1,load,loadCells,cut,yC,mkAgg,trees,nth,lenOf,indexAddr,storeAt,upd,splice,vZ,uT,zBe,jF,kY,zAH,zAs,zAq,qT,qO,kW,convert,zAu,zAw,zAo,zAn,zBv,zAN,zAC,zAM,zAk,zAl,zAD,qQ,zAJ,zAA,zAy,zAE,zAF,zAt,zAm,zAI,jD,jO,Nat.beq,beq_self_eq_true,Nat.zero_add,Nat.add_zero,List.toList_toArray,List.map_cons,List.map_nil,List.length_cons,List.length_nil,List.take,List.drop,List.all_cons,List.all_nil,List.cons_append,List.nil_append,List.append_nil,Bool.and_true,Bool.true_and,Bool.not_true,Bool.not_false,Bool.and_self,if_true,if_false,reduceIte,Nat.reduceAdd,Nat.reduceLeDiff,Nat.reduceEqDiff,Sl.t,Val.c,Slot.c,Tpl.c,Fact.c,Bind.c,Node.c,Test.c,STest.c,Pat.c,intC,and_self,true_and,and_true,b00,b01,b02,b03,b04,b10,b11,b12,b13,b14,b20,b21,b22,b23,b24,b30,b31,b32,b33,b34,b40,b41,b42,b43,b44,jL,vY,reach,wT,refs,vS,catMap,depth,sub,sub1,renL,ren,renO,mem,place,fresh,xM,plain,zBm,back,zC3,zB4,vE,Way.id,Way.ver,vN,zCq,getN,view,yO,xF,zCy,zX,ne_eq,not_false_eq_true,cond_true,cond_false,zB6,Option.getD_some,elems,yN,wU,xA,wI,wI.go,zAf,qJ,setN,List.replicate,Nat.mul_one,Nat.reduceMul,Nat.reduceLT,append,added,lens,jQ,zJZ,zLk,zLD,vU,foot,zJz,names,kV,zOO,zNX,mfind,kQ,zAP,UInt8.reduceToNat,zBE,Ab.bound,Int.toNat_natCast,bne_self_eq_false,true_or,Nat.reduceLT,one1,zAO,deferred,kM,yK,zBw,kT,zBB,qV,qA,vT,zCe,zCu,zD4,zD6,uY,Bool.or_true,Bool.or_false,Bool.true_or,Bool.false_or,F_, *];exact rfl)):RR x Q:=h ▸ hq
theorem aD{l:List Rec}{T:Env}{h:Heap}{A B:List Rec→Env→Heap→Prop}(hq:B l T h)(hc:A l T h:=by kernel_rfl):RR (some (l,T,h)) fun l T h=>A l T h∧B l T h:=zQS ⟨hc,hq⟩
end
section
variable {C:Cfg} {m k:Nat} {keep:Nat→Option (List Nat)} {st:St} {Q:Ex→St→Prop} {a b:Code}
inductive cdP:Bool→Prop→Prop→Prop where
 |t {p q:Prop} (h:p):cdP true p q
 |f {p q:Prop} (h:q):cdP false p q
theorem cdPl{p q:Prop}(h:cdP true p q):p:=by cases h;assumption
theorem cdPr{p q:Prop}(h:cdP false p q):q:=by cases h;assumption
instance {p q:Prop}:Fol (cdP true p q) p:=⟨.t⟩
instance {p q:Prop}:Fol (cdP false p q) q:=⟨.f⟩
theorem cdT{v:Bool}{p q:Prop}(h1:v=true→p)(h2:v=false→q):cdP v p q:=by
 cases v with
 |true=>exact .t (h1 rfl)
 |false=>exact .f (h2 rfl)
theorem aGd {b:Bool} {C:Cfg} {ρ:Oracle} {k:Nat} {hC:List Oper} {o:Oper} {hy:List Oper} {T:Env} {h:Heap} {Q:Option AV→Env→Heap→Prop}
  (h1:cdP b (RW (one1 C ρ k hC o hy T h) Q) (RW (xR C ρ k hC hy (putT T o.dst .nov) h) Q)):RW (gdL (some b) C ρ k hC o hy T h) Q:=zXQ (fun e=>by subst e;exact cdPl h1) (fun e=>by subst e;exact cdPr h1)
theorem aGn {b:Bool} {C:Cfg} {ρ:Oracle} {k:Nat} {hC:List Oper} {o:Oper} {hy:List Oper} {T:Env} {h:Heap} {Q:Option AV→Env→Heap→Prop}
  (h1:cdP b (RW (xR C ρ k hC hy (putT T o.dst .nov) h) Q) (RW (one1 C ρ k hC o hy T h) Q)):RW (gdL (some !b) C ρ k hC o hy T h) Q:=zTE (fun e=>by subst e;exact cdPr h1) (fun e=>by subst e;exact cdPl h1)
theorem aHd {b:Bool} {C:Cfg} {ρ:Oracle} {hC:List Oper} {o:Oper} {hy:List Oper} {T:Env} {h:Heap} {Q:List Rec→Env→Heap→Prop}
  (h1:cdP b (RR (match exec1 C ρ (nth h) h.length T o with
   |none=>none
   |some (.pan _,_)=>none
   |some (.val v,p)=>match vU h.length p with
    |false=>none
    |true=>zAe ⟨foot C (nth h) T o,v,p⟩ (xJ C ρ hC hy (putT T o.dst v) (patch h p))) Q) (RR (zAe ⟨[],.nov,[]⟩ (xJ C ρ hC hy (putT T o.dst .nov) h)) Q)):RR (gdR (some b) C ρ hC o hy T h) Q:=zYq (fun e=>by subst e;exact cdPl h1) (fun e=>by subst e;exact cdPr h1)
theorem aHn {b:Bool} {C:Cfg} {ρ:Oracle} {hC:List Oper} {o:Oper} {hy:List Oper} {T:Env} {h:Heap} {Q:List Rec→Env→Heap→Prop}
  (h1:cdP b (RR (zAe ⟨[],.nov,[]⟩ (xJ C ρ hC hy (putT T o.dst .nov) h)) Q) (RR (match exec1 C ρ (nth h) h.length T o with
   |none=>none
   |some (.pan _,_)=>none
   |some (.val v,p)=>match vU h.length p with
    |false=>none
    |true=>zAe ⟨foot C (nth h) T o,v,p⟩ (xJ C ρ hC hy (putT T o.dst v) (patch h p))) Q)):RR (gdR (some !b) C ρ hC o hy T h) Q:=zTk (fun e=>by subst e;exact cdPr h1) (fun e=>by subst e;exact cdPl h1)
theorem aCe{c:Operand}{v:Bool}(h1:cdP v (W C m k keep a st Q) (W C m k keep b st Q))(h:zN st.T c=.t (.bool v):=by(simp only[zN,Ab.get,lit,lit1,Nat.beq, *];exact rfl)):W C m k keep (.cond c a b) st Q :=
 zLO h (fun e=>by subst e;exact cdPl h1) (fun e=>by subst e;exact cdPr h1)
end
def gS{p q:Prop}(h:q)(k:q→p:=by first|exact fun h=>aA h|exact fun h=>aB h|exact fun h=>aC h|exact fun h=>aD h|exact fun h=>aGn h|exact fun h=>aGd h|exact fun h=>aHn h|exact fun h=>aHd h|exact fun h=>aE h|exact fun h=>aF h|exact fun h=>aG h|exact fun h=>aCe h|fail):p:=k h
def gA{p q:Prop}(h:q)(k:q→p:=by(intro x_;(first|(with_reducible (refine gS ?_;repeat refine gS ?_))|fail);exact x_)):p:=k h
def gT{p q r:Prop}(h1:q)(h2:r)(k:q→r→p:=by first|(with_reducible exact fun h1 h2=>cdT h1 h2)|fail):p:=k h1 h2
def mapA{α β:Type}{f:α→β}{a b:List α}:(a++b).map f=a.map f++b.map f:=List.map_append
def mapS{α β:Type}{f:α→β}{l:List α}{i:Nat}{a:α}:(l.set i a).map f=(l.map f).set i (f a):=List.map_set
def zRU {C:Cfg} {ρ:Oracle} {m k n n':Nat} {keep:Nat→Option (List Nat)} {c:Code} {st:St} {u:Pn} {r:Ex×St×Pn} (hn:n≤n')
  (hx:uB C ρ n m k keep c st u=some r):uB C ρ n' m k keep c st u=some r:=by
 obtain⟨L,h1,h2⟩:=zNv C m k keep c st u ρ n r hx;exact h2 ρ n' hn h1
def zXT{C:Cfg}{m k:Nat}{keep:Nat→Option (List Nat)}{st:St}{Q:Ex→St→Prop}{a b c:Code}(h:W C m k keep ((a.seq b).seq c) st Q):W C m k keep (a.seq (b.seq c)) st Q:=by
 obtain⟨n,e,st',h1,h2⟩:=h;refine⟨n,e,st',?_,h2⟩;simp only[exec] at h1 ⊢;cases ha:exec C (Om C) n m k keep a st with
 |none=>rw[ha] at h1;exact h1
 |some p =>
  obtain⟨e1,s1⟩:=p;rw[ha] at h1;cases e1<;>exact h1
section
variable {C:Cfg} {m k:Nat} {keep:Nat→Option (List Nat)} {st:St} {Q:Ex→St→Prop}
theorem yA5 {f:Operand} {ps:Array Tmp} {asg body:Code} {e:Ex} {st':St} (h:zED C (Om C) k keep f ps.toList asg body st=some (e,st')) (hq:Q e st') :
  W C m k keep (.rangeFunc f ps asg body) st Q:=⟨0,e,st',by simp only[exec];exact h,hq⟩
def endR(m id:Nat)(R:Bool→Heap→Prop)(e:Ex)(st:St):Prop :=
 ∃jump c T b j h',zCv.endOf e=some jump∧nth st.h id=some (.loop c T b j)∧canon (patch st.h [(id,.loop c T (if jump.isNone then 0 else 2) jump)]) m []=some ([],h')∧R jump.isNone h'
def asgR(C:Cfg)(m id:Nat)(c:LoopC)(R:Bool→Heap→Prop)(e:Ex)(st:St):Prop :=
 e=.normal∧∃c' T',nth st.h id=some (.loop c' T' 0 none)∧W C m c.k (C.keep c.kf) c.body ⟨st.T,patch st.h [(id,.loop c' T' 1 none)]⟩ (endR m id R)
theorem zO5 {id:Nat} {as:List AV} {h:Heap} {c:LoopC} {T T1:List (Nat×AV)} {R:Bool→Heap→Prop} (hI:nth C.P.funcs.toList vL=none)
  (h0:nth h id=some (.loop c T 0 none)) (h1:zGZ c.ps as ((c.k,.rnd)::T)=some T1) (h2:(Nat.blt id h.length&&zCv.dstOKL c.k c.ps)=true)
  (hw:W C h.length c.k (C.keep c.kf) c.asg ⟨T1,h⟩ (asgR C h.length id c R)):∃b h',Om C vL (.yld id::as) h=some (.val (.t (.bool b)),h')∧R b h':=by
 obtain⟨n,e,st,w1,rfl,c',T',w2,n2,e2,st2,w3,jump,c2,T2,bb,jj,h',w4,w5,w6,w7⟩:=hw;refine⟨jump.isNone,h',zDQ (n:=max n n2) ?_,w7⟩;unfold zDl;rw[hI];dsimp only;rw[show Nat.beq vL vL=true from Nat.beq_refl _];dsimp only;unfold zCv;simp only[h0,h1,h2];rw[uI (Nat.le_max_left n n2) w1];simp only[w2];rw[uI (Nat.le_max_right n n2) w3];simp only[w4,w5,w6]
def WS(C:Cfg)(m k:Nat)(keep:Nat→Option (List Nat))(c:Code)(st:St)(u:Pn)(Q:Ex→St→Pn→Prop):Prop :=
 ∃n e st' u',uB C (Om C) n m k keep c st u=some (e,st',u')∧Q e st' u'
def yIj(C:Cfg)(m k:Nat)(keep:Nat→Option (List Nat))(b:Code)(Q:Ex→St→Pn→Prop):Ex→St→Pn→Prop
 |.normal,st,u=>W C m k keep b st fun e st=>Q e st u
 |e,st,u=>Q e st u
theorem zLg{a b:Code}{u:Pn}{Q:Ex→St→Pn→Prop}(hr:zAU a=true)(h:WS C m k keep a st u (yIj C m k keep b Q)):WS C m k keep (.seq a b) st u Q:=by
 obtain⟨n,e,st',u',h1,h2⟩:=h;cases e with
 |normal =>
  obtain⟨n2,e2,st2,h3,h4⟩:=h2;refine⟨max n n2,e2,st2,u',?_,h4⟩;rw[uB,hr];dsimp only;rw[zRU (Nat.le_max_left n n2) h1];dsimp only;rw[uI (Nat.le_max_right n n2) h3];rfl
 |exit id=>exact⟨n,_,_,_,by rw[uB,hr];dsimp only;rw[h1],h2⟩
 |ret=>exact⟨n,_,_,_,by rw[uB,hr];dsimp only;rw[h1],h2⟩
 |pan v=>exact⟨n,_,_,_,by rw[uB,hr];dsimp only;rw[h1],h2⟩
theorem zU9 {id:Nat} {hC:Array Oper} {u u':Pn} {T:Env} {h:Heap} {Q:Ex→St→Pn→Prop} (hr:hC.toList.any zAS=true) (hd:uQ k hC.toList=true)
  (hx:qB C (Om C) hC.toList hC.toList st.T st.h u=some (T,h,u')) (hq:Q .normal ⟨T,h⟩ u'):WS C m k keep (.region id hC false) st u Q :=
 ⟨0,_,_,_,by rw[uB,hr];dsimp only;rw[hd];dsimp only;rw[hx],hq⟩
def yHD(C:Cfg)(fn:Func)(m:Nat)(R:Pn→Heap→Prop)(e:Ex)(st:St)(u:Pn):Prop :=
 (e=.normal∨e=.ret)∧yK fn.ntmps st.T=some []∧(∃v,results C.P fn st=some v)∧∃h',canon st.h m []=some ([],h')∧R (zCY u) h'
theorem zHr {g:FuncId} {fn:Func} {c:Code} {u:Pn} {args:List AV} {h:Heap} {R:Pn→Heap→Prop} (hI:nth C.P.funcs.toList (xG+g)=none) (hg:Nat.beq (xG+g) vL=false)
  (hf:nth C.P.funcs.toList g=some fn) (hb:fn.body=some c) (hn:Nat.ble args.length fn.ntmps=true) (hu:avPn (pnAV u)=some u)
  (hw:WS C h.length fn.ntmps (C.keep g) c ⟨zT 0 args,h⟩ u (yHD C fn h.length R)):∃u' h',Om C (xG+g) (pnAV u::args) h=some (.val (pnAV u'),h')∧R u' h':=by
 obtain⟨n,e,st,u',w1,he,w2,⟨v,w3⟩,h',w4,w5⟩:=hw;refine⟨zCY u',h',zDQ (n:=n) ?_,w5⟩;unfold zDl;rw[hI];dsimp only;rw[hg];dsimp only;rw[show Nat.ble xG (xG+g)=true by rw[Nat.ble_eq];exact Nat.le_add_right _ _];dsimp only;rw[Nat.add_sub_cancel_left];unfold zJb;simp only[hu,hf,hb,hn];rw[w1];rcases he with rfl|rfl
 ·simp only[w2,w3,w4]
 simp only[w2,w3,w4]
end
end Go.Ab
namespace Go.Ab
open Go.ChangeShapes Go.WideShapes
section
variable {H:Type} {enc:TypeId×Value→H} {P:Program} {w:World}
def zEO(w:World):Imm:=fun b o=>w.cell? ⟨b,o,none⟩
structure CT (w:World) (ts:List Tree) (cs:List Value):Prop where
 len:ts.length=cs.length
 val:∀(i:Nat) c v,ts[i]?=some c→cs[i]?=some v→TR (zEO w) c v∧v.oneCell'=true
theorem CT.nil:CT w [] []:=⟨rfl,fun i c v h=>by simp at h⟩
theorem CT.one{c:Tree}{v:Value}(h:TR (zEO w) c v)(h':v.oneCell'=true):CT w [c] [v] :=
 ⟨rfl,fun i c' v' hc hv=>by
  cases i with
  |zero=>simp at hc hv;subst hc;subst hv;exact⟨h,h'⟩
  |succ i=>simp at hc⟩
theorem CT.append{a b:List Tree}{x y:List Value}(h:CT w a x)(h':CT w b y):CT w (a++b) (x++y):=by
 refine⟨by simp [h.len,h'.len],fun i c v hc hv=>?_⟩
 by_cases hi:i<a.length
 ·rw[List.getElem?_append_left hi] at hc;rw[List.getElem?_append_left (by rw[← h.len];exact hi)] at hv;exact h.val i c v hc hv
 rw[List.getElem?_append_right (by omega)] at hc;rw[List.getElem?_append_right (by rw[← h.len];omega),← h.len] at hv;exact h'.val _ c v hc hv
theorem zGG{a b:List Tree}{cs:List Value}{o n:Nat}(h1:CT w a ((cs.drop o).take n))(h2:CT w b (cs.drop (o+n))):CT w (a++b) (cs.drop o):=by
 have e:cs.drop o=(cs.drop o).take n++cs.drop (o+n):=by
  rw[← List.drop_drop,List.take_append_drop]
 rw[e];exact h1.append h2
theorem zT6{cs:List Value}{o:Nat}(h:cs.length=o):CT w [] (cs.drop o):=by
 rw[List.drop_of_length_le (by omega)];exact .nil
def Rd(enc:TypeId×Value→H)(P:Program)(w:World)(t:TypeId)(cs:List Value):Prop:=∃n x,DataW.trod enc P w 0 (fun _=>true) true n t cs=some x
def Dec(enc:TypeId×Value→H)(P:Program)(w:World){α:Type}(t:TypeId)(f:α→List Tree)(ok:α→Prop):Prop :=
 ∀cs,Rd enc P w t cs→∃a,CT w (f a) cs∧ok a
theorem zRr{t:TypeId}{k:IntKind}(ht:P.underlying t=some (.int k)):Dec enc P w t (fun n:Int=>[.int k n]) (fun n=>(Lit.int k n).wf=true):=by
 rintro cs ⟨n,x,h⟩;cases n with
 |zero=>simp [DataW.trod] at h
 |succ n =>
  unfold DataW.trod at h;rw[ht] at h;split at h<;>simp_all
  obtain⟨⟨rfl,h1⟩,_⟩:=h;exact⟨_,.one (.int _ _) rfl,h1⟩
def StrOK(s:List Nat):Prop:=s.length≤maxLen∧∀b ∈ s,b<256
theorem zGN{t:TypeId}(ht:P.underlying t=some .string):Dec enc P w t (fun s:List Nat=>[.str s]) StrOK:=by
 rintro cs ⟨n,x,h⟩;cases n with
 |zero=>simp [DataW.trod] at h
 |succ n =>
  unfold DataW.trod at h;rw[ht] at h;split at h<;>simp_all
  obtain⟨h1,_⟩:=h;rename_i s _;refine⟨s.data.toList.map UInt8.toNat,.one (TR.bytes _ _) rfl,?_,fun b hb=>?_⟩
  ·simpa using h1
  obtain⟨c,_,rfl⟩:=List.mem_map.1 hb;exact c.toNat_lt
structure SlOK {α:Type} (ok:α→Prop) (s:Sl α):Prop where
 all:∀a ∈ s.l,ok a
 len:s.l.length<9223372036854775808
 nl:s.nl=true→s.l=[]
 cl:s.cl=true→s.l=[]
theorem zVL{base:Nat}{a:Addr}{n:Nat}{cs:List Value}(h:w.cells? base a n=some cs):cs.length=n∧∀j,j<n→w.cell? (a.add j)=cs[j]?:=by
 unfold World.cells? at h;split at h
 ·refine⟨by have:=mapM_some_length h;simpa using this,fun j hj=>?_⟩;exact mapM_some_get h j j (by simp [hj])
 cases h
theorem zNa{a:Addr}{v:Value}(h:w.cell? a=some v):a=⟨a.block,a.off,none⟩:=by
 unfold World.cell? at h;split at h
 ·split at h
  ·cases h
  rename_i hs;obtain⟨b,o,s⟩:=a;cases s with
  |none=>rfl
  |some x=>simp at hs
 cases h
theorem zTf {α:Type} {t e:TypeId} {f:α→List Tree} {ok:α→Prop} {s:Nat} (ht:P.underlying t=some (.slice e)) (hc:P.cellsOf e=s) (hs:0<s) (hf:∀a,(f a).length=s)
  (D:Dec enc P w e f ok):Dec enc P w t (fun x:Sl α=>[x.t f]) (SlOK ok):=by
 rintro cs ⟨n,x,h⟩;rcases Deep.open_slice ht h with ⟨rfl,_⟩|⟨a,len,cap,m,n',D',Pl,rfl,_,hU,hN,hm,_,hO⟩
 ·refine⟨⟨true,true,[]⟩,.one ?_ rfl,⟨fun a ha=>(by simp at ha),by simp,fun _=>rfl,fun _=>rfl⟩⟩;exact TR.sl true true [] none 0 0 (fun _ _=>default) (fun _=>⟨rfl,rfl,rfl⟩) (fun h=>by cases h) (fun e he=>by simp at he) (fun i j e c he=>by simp at he) (by simp) (fun _=>rfl) (fun i j e c he=>by simp at he)
 have hX:len≤m:=by rw[hm];split<;>omega
 have each:∀i:Nat,i<len→∃b:α,∃cs',w.cells? 0 (a.add (i * s)) s=some cs'∧CT w (f b) cs'∧ok b:=fun i hi=>by
  obtain⟨cs',h1,h2⟩:=hO i (by omega);rw[hc] at h1;obtain⟨b,h3,h4⟩:=D cs' ⟨_,_,h2⟩;exact⟨b,cs',h1,h3,h4⟩
 have build:∀k,k≤len→∃l:List α,l.length=k∧∀i b,l[i]?=some b→∃cs',w.cells? 0 (a.add (i * s)) s=some cs'∧CT w (f b) cs'∧ok b:=by
  intro k
  induction k with
  |zero=>exact fun _=>⟨[],rfl,fun i b h=>by simp at h⟩
  |succ k ih =>
   intro hk;obtain⟨l,h1,h2⟩:=ih (by omega);obtain⟨b,cs',h3⟩:=each k (by omega);refine⟨l++[b],by simp [h1],fun i b' hb=>?_⟩
   by_cases hi:i<l.length
   ·rw[List.getElem?_append_left hi] at hb;exact h2 i b' hb
   rw[List.getElem?_append_right (by omega)] at hb;have:i - l.length=0:=by
    rcases Nat.eq_zero_or_pos (i - l.length) with h|h
    ·exact h
    rw[List.getElem?_eq_none (by simp;omega)] at hb;cases hb
   rw[this] at hb;simp at hb;subst hb;have:i=k:=by omega
   subst this;exact⟨cs',h3⟩
 obtain⟨l,hl,hE⟩:=build len (Nat.le_refl _);have hD:∀(i j:Nat) b c,l[i]?=some b→(f b)[j]?=some c→∃v,w.cell? (a.add (i * s+j))=some v∧TR (zEO w) c v∧v.oneCell'=true:=fun i j b c hb hL=>by
  obtain⟨cs',h1,h2,_⟩:=hE i b hb;obtain⟨h3,h4⟩:=zVL h1;have hj:j<s:=by rw[← hf b];exact(List.getElem?_eq_some_iff.1 hL).1
  have h5:=h4 j hj;rw[Deep.add_add] at h5;have h6:cs'[j]?=some (cs'[j]'(by omega)):=List.getElem?_eq_getElem _;rw[h6] at h5;exact⟨_,h5,h2.val j c _ hL h6⟩
 refine⟨⟨false,false,l⟩,.one ?_ rfl,⟨fun b hb=>?_,?_,fun h=>(by cases h),fun h=>(by cases h)⟩⟩
 ·have key:=TR.sl (I:=zEO w) false false (l.map f) (some a) cap s (fun i j=>(w.cell? (a.add (i * s+j))).getD default) (fun h=>by cases h) (fun _=>⟨by simp,a.block,a.off,fun hP=>?_,fun i j e c he hj=>?_⟩)
   (fun e he=>by obtain⟨b,_,rfl⟩:=List.mem_map.1 he;exact hf b) (fun i j e c he hj=>?_) (by simp;omega) (fun h=>by cases h) (fun i j e c he hj=>?_)
  ·simpa [Sl.t,hl] using key
  ·obtain⟨b,hb⟩:∃b,l[0]?=some b:=by
    cases l with
    |nil=>simp at hP
    |cons b _=>exact⟨b,rfl⟩
   have hQ:0<(f b).length:=by rw[hf b];exact hs
   obtain⟨v,h1,_⟩:=hD 0 0 b _ hb (List.getElem?_eq_getElem hQ);have:a.add (0 * s+0)=a:=by simp [Addr.add]
   rw[this] at h1;rw[zNa h1]
  ·rw[List.getElem?_map] at he;obtain⟨b,hb,rfl⟩:=Option.map_eq_some_iff.1 he;obtain⟨v,h1,_⟩:=hD i j b c hb hj;have hz:a=⟨a.block,a.off,none⟩∨0<i * s+j:=by
    rcases Nat.eq_zero_or_pos (i * s+j) with h|h
    ·rw[h] at h1;have:a.add 0=a:=by simp [Addr.add]
     rw[this] at h1;exact .inl (zNa h1)
    exact .inr h
   have e:a.add (i * s+j)=⟨a.block,a.off+i * s+j,none⟩:=by
    unfold Addr.add;rcases hz with h|h
    ·split
     ·rename_i h0;rw[h];(first|(simp;done)|(simp;omega))
     (first|(simp;done)|(simp;omega))
    rw[if_neg (by omega)];(first|(simp;done)|(simp;omega))
   show w.cell? ⟨a.block,a.off+i * s+j,none⟩=_
   rw[← e,h1];rfl
  ·rw[List.getElem?_map] at he;obtain⟨b,hb,rfl⟩:=Option.map_eq_some_iff.1 he;obtain⟨v,h1,h2,_⟩:=hD i j b c hb hj;rw[h1];exact h2
  rw[List.getElem?_map] at he;obtain⟨b,hb,rfl⟩:=Option.map_eq_some_iff.1 he;obtain⟨v,h1,_,h2⟩:=hD i j b c hb hj;rw[h1];exact h2
 ·obtain⟨i,hi⟩:=List.getElem?_of_mem hb;obtain⟨_,_,_,h⟩:=hE i b hi;exact h
 have:maxLen=9223372036854775807:=by decide
 simp only[hl];omega
theorem zSQ {t:TypeId} {fs:Array Field} {cs:List Value} (ht:P.underlying t=some (.struct fs)) (h:Rd enc P w t cs) :
  cs.length=P.cellsOf t∧∀(i:Nat) (f:Field),fs[i]?=some f→Rd enc P w f.type ((cs.drop f.offset).take (P.cellsOf f.type)):=by
 obtain⟨n,x,h⟩:=h;obtain⟨xs,m,_,_,h1,h2,h3⟩:=DataW.trod_struct ht h;refine⟨h1,fun i f hf=>?_⟩;have h4:=h3 i f hf;have hi:i<xs.length:=by rw[h2];exact(Array.getElem?_eq_some_iff.1 hf).1
 rw[List.getElem?_eq_getElem hi] at h4;exact⟨_,_,h4⟩
theorem zN7 {t:TypeId} {l:List (TypeId×Nat)} {cs:List Value} (hR:∃fs,P.underlying t=some (.struct fs)∧fs.toList.map (fun f=>(f.type,f.offset))=l) (h:Rd enc P w t cs) :
  cs.length=P.cellsOf t∧∀x ∈ l,Rd enc P w x.1 ((cs.drop x.2).take (P.cellsOf x.1)):=by
 obtain⟨fs,ht,rfl⟩:=hR;obtain⟨h1,h2⟩:=zSQ ht h;refine⟨h1,fun x hx=>?_⟩;obtain⟨f,hf,rfl⟩:=List.mem_map.1 hx;obtain⟨i,hi⟩:=List.getElem?_of_mem hf;exact h2 i f (by simpa using hi)
theorem zID{v:Value}{t:Tree}(h:CT w [t] v.cells.toList)(ho:∀cs,v≠.agg cs):TR (zEO w) t v:=by
 cases v with
 |agg cs=>exact(ho cs rfl).elim
 |_=>exact(h.val 0 _ _ rfl rfl).1
theorem zPq{cs:Array Value}{ts:List Tree}(h:CT w ts (Value.agg cs).cells.toList):TR (zEO w) (.agg ts) (.agg cs):=by
 have h':CT w ts cs.toList:=h;have:=TR.agg (I:=zEO w) ts cs.toList h'.len fun i c v hc hv=>(h'.val i c v hc hv).1
 simpa using this
theorem jV{t:TypeId}{v:Value}{d:DataW H}{ps:List MemPlace}(h:DataW.Trod enc P w 0 (fun _=>true) true t v d ps):Rd enc P w t v.cells.toList:=by
 obtain⟨n,h⟩:=h;exact⟨n,_,h⟩
theorem zOL{w':World}(hk:∀b,b<w.heap.size→w'.heap[b]?=w.heap[b]?){p:MemPlace}(hp:p.block<w.heap.size):w.sameAt w' p:=by
 cases p with
 |cell b o=>exact kX (hk b hp)
 |map b=>exact hk b hp
theorem zHR {w':World} {sp:Nat→Bool} {T:TypeId→Prop} (K:Kids P T) (hH:∀ {t e:TypeId},T t→P.underlying t=some (.slice e)→0<P.cellsOf e) :
  ∀ {ts:List TypeId} {vs:List Value} {ds:List (DataW H)} {ps:List MemPlace},(∀t ∈ ts,T t)→DataW.TrodAll enc P w 0 (fun _=>true) true ts vs ds ps →
   (∀p ∈ ps,w.sameAt w' p)→(∀p ∈ ps,sp p.block=true)→DataW.TrodAll enc P w' 0 sp true ts vs ds ps
 |[],[],[],ps,_,h,_,_=>h
 |t::ts,v::vs,d::ds,ps,hT,h,h1,h2=>by
  obtain⟨p,q,⟨n,h3⟩,h4,rfl⟩:=h;refine⟨p,q,⟨n,?_⟩,zHR K hH (fun t ht=>hT t (List.mem_cons_of_mem _ ht)) h4 (fun x hx=>h1 x (List.mem_append_right _ hx)) (fun x hx=>h2 x (List.mem_append_right _ hx)),rfl⟩;exact DataW.trod_stays K hH (fun h=>by cases h) (hT t (List.mem_cons_self ..)) h3 (fun x hx=>h1 x (List.mem_append_left _ hx)) (fun x hx=>h2 x (List.mem_append_left _ hx))
theorem zIX{w':World}(hk:∀b,b<w.heap.size→w'.heap[b]?=w.heap[b]?)(hs:w'.os=w.os∧w'.output=w.output)(may:MemPlace→Prop):w.keptBut w' may:=by
 refine⟨hs.1,hs.2,fun i hi=>?_⟩;rw[hk i hi];split
 ·rename_i h1 h2;cases h1.symm.trans h2;exact⟨rfl,rfl,rfl,fun _ _=>rfl⟩
 ·rename_i h1 h2;cases h1.symm.trans h2;exact .inr ⟨rfl,rfl⟩
 rfl
theorem zPa {f:Func} {s:ChangeSpec} {w':World} {args:Array Value} {ds gs:List (DataW H)} {before:List MemPlace} {T:TypeId→Prop} {tb:TypeId}
  (hW:DataW.Whole enc P f.params.toList s.vars false w args.toList ds gs before) (hF:s.vars=[]) (K:Kids P T) (hH:∀ {t e:TypeId},T t→P.underlying t=some (.slice e)→0<P.cellsOf e)
  (hT:∀t ∈ f.params.toList,T t) (hr:f.resultTypes=#[tb]) (hb:P.underlying tb=some .bool)
  (hJ:(s.fn H (ds++gs)).results=[.lit (.bool true)]) (hG:(s.fn H (ds++gs)).args=ds) (hv:(s.fn H (ds++gs)).vars=[])
  (hk:∀b,b<w.heap.size→w'.heap[b]?=w.heap[b]?) (hs:w'.os=w.os∧w'.output=w.output):s.post enc P f false true false false w args (.bool true) w':=by
 have hM:=hW.lt;have hS:=hW;obtain⟨p,q,hA,hV,rfl,_,_⟩:=hS;refine⟨ds,gs,p++q,[],p,[],hW,?_,?_,?_,zIX hk hs _,fun h=>by cases h⟩
 ·rw[hr,hJ]
  show DataW.TrodAll enc P w' _ _ _ [tb] [.bool true] [.lit (.bool true)] []
  exact trodAll_mk1 ⟨1,by unfold DataW.trod;simp [hb,Value.cells]⟩
 ·rw[hG];exact zHR K hH hT hA (fun x hx=>zOL hk (hM x (List.mem_append_left _ hx))) (fun x hx=>by simpa using hM x (List.mem_append_left _ hx))
 rw[hF,hv];rfl
end
end Go.Ab
namespace Go.Ab
open Go
def ub(s:List Nat):List UInt8:=s.map UInt8.ofNat
def nb(s:List UInt8):List Nat:=s.map UInt8.toNat
def zEI(x:List AV):Option AV :=
 match x with
 |[.t (.str s),.t (.int .u8 c)]=>some (.t (.int .i64 (Lib.indexByte (ub s) c.toNat.toUInt8)))
 |_=>none
def zDa(x:List AV):Option AV :=
 match x with
 |[.t (.str s),.t (.str sub)]=>bif Nat.blt s.length 4294967281 then some (.t (.bool (Lib.contains (ub s) (ub sub)))) else none
 |_=>none
def uH:List (List Tree)→Option (List (List Nat))
 |[]=>some []
 |[.str s]::es=>match uH es with
  |some l=>some (s::l)
  |none=>none
 |_=>none
def zFG(x:List AV):Option AV :=
 match x with
 |[.t (.sl _ _ es),.t (.str sep)]=>match uH es with
  |some xs=>bif Nat.ble xs.length 140737488355328&&Nat.ble (Lib.join (xs.map ub) (ub sep)).length 140737488355328 then some (.t (.str (nb (Lib.join (xs.map ub) (ub sep))))) else none
  |none=>none
 |_=>none
def zI4(x:List AV):Option AV :=
 match x with
 |[.t (.str s),.t (.str sep)]=>bif Nat.blt s.length 4294967281 then
   some (.tup [.t (.str (nb (Lib.cut (ub s) (ub sep)).1)),.t (.str (nb (Lib.cut (ub s) (ub sep)).2.1)),.t (.bool (Lib.cut (ub s) (ub sep)).2.2)]) else none
 |_=>none
def zB3(x:List AV):Option AV :=
 match x with
 |[.t (.str s),.t (.str a),.t (.str b)]=>bif Nat.blt s.length 4294967281&&Nat.ble 1 a.length&&Nat.ble (s.length+(s.length+1) * b.length) 140737488355328 then
   some (.t (.str (nb (Lib.replaceAll (ub s) (ub a) (ub b))))) else none
 |_=>none
def zCo(x:List AV):Option AV :=
 match x with
 |[.t (.str s),.t (.str [c])]=>bif Nat.blt c 128&&Nat.ble s.length 9223372036854775807 then some (.t (.str (nb (Lib.trimRightB (ub s) (UInt8.ofNat c))))) else none
 |_=>none
def zCm(x:List AV):Option AV :=
 match x with
 |[.t (.int .i64 n),.t (.int .i64 10)]=>bif decide (-9223372036854775808≤n)&&decide (n≤9223372036854775807) then some (.t (.str (nb (Lib.itoa n)))) else none
 |_=>none
def zC2(x:List AV):Option AV :=
 match x with
 |[.t (.str s),.t (.int .i64 10),.t (.int .i64 64)]=>bif Nat.ble s.length 281474976710656 then
   (match Lib.parseIntB 64 (ub s) with
   |.ok v=>some (.tup [.t (.int .i64 v),.t .nilifc])
   |.range=>some (.tup [.t (.int .i64 (Lib.intSat 64 (ub s))),.ifx])
   |_=>some (.tup [.t (.int .i64 0),.ifx])) else none
 |_=>none
def unq:List Nat→List Nat
 |[]=>[]
 |[_]=>[]
 |c::d::r=>if c=92 then d::unq r else c::unq (d::r)
def zHu(x:List AV):Option AV :=
 match x with
 |[.t (.str s)]=>bif Nat.ble s.length 4294967296 then some (.tup [.t (.agg [.int .u8 3,.int .i64 0,.str (unq (s.drop 1))]),.t (.int .i64 0)]) else none
 |_=>none
end Go.Ab
namespace Go.Ab
def all2{α:Type}(f:α→α→Bool):List α→List α→Bool
 |[],[]=>true
 |a::l,b::r=>match f a b with
  |true=>all2 f l r
  |false=>false
 |_,_=>false
def zGM{α:Type}{f:α→α→Bool}(h:∀a b,f a b=true→a=b):∀l r,all2 f l r=true→l=r
 |[],[],_=>rfl
 |[],_::_,h=>by simp [all2] at h
 |_::_,[],h=>by simp [all2] at h
 |a::l,b::r,hx=>by
  unfold all2 at hx;split at hx
  ·rename_i hf;rw[h a b hf,zGM h l r hx]
  cases hx
def beqK:IntKind→IntKind→Bool
 |.i8,.i8|.i16,.i16|.i32,.i32|.i64,.i64|.u8,.u8|.u16,.u16|.u32,.u32|.u64,.u64=>true
 |_,_=>false
def zY6{a b:IntKind}(h:beqK a b=true):a=b:=by cases a<;>cases b<;>first|rfl|cases h
def beqI:Int→Int→Bool
 |.ofNat a,.ofNat b=>Nat.beq a b
 |.negSucc a,.negSucc b=>Nat.beq a b
 |_,_=>false
def zZS{a b:Int}(h:beqI a b=true):a=b:=by
 cases a<;>cases b<;>first|(cases h;done)|skip
 ·rw[Nat.eq_of_beq_eq_true h]
 rw[Nat.eq_of_beq_eq_true h]
def beqB:Bool→Bool→Bool
 |true,true=>true
 |false,false=>true
 |_,_=>false
def zMK{a b:Bool}(h:beqB a b=true):a=b:=by cases a<;>cases b<;>first|rfl|cases h
def beqT:Nat→Tree→Tree→Bool
 |0,_,_=>false
 |d+1,x,y=>match x,y with
  |.bool a,.bool b=>beqB a b
  |.int k n,.int k' n'=>beqK k k'&&beqI n n'
  |.str a,.str b=>beqL a b
  |.sl n c es,.sl n' c' es'=>beqB n n'&&beqB c c'&&all2 (all2 (beqT d)) es es'
  |.agg cs,.agg cs'=>all2 (beqT d) cs cs'
  |.ifc t v,.ifc t' v'=>Nat.beq t t'&&beqT d v v'
  |.nilifc,.nilifc=>true
  |.fn f,.fn g=>Nat.beq f g
  |.nilfn,.nilfn=>true
  |.nilptr,.nilptr=>true
  |.nilmap,.nilmap=>true
  |_,_=>false
def zQN:∀(d:Nat) (x y:Tree),beqT d x y=true→x=y
 |0,_,_,h=>by simp [beqT] at h
 |d+1,x,y,h=>by
  have ih:=zQN d;unfold beqT at h;split at h<;>first|(cases h;done)|skip
  ·rw[zMK h]
  ·simp only[Bool.and_eq_true] at h;rw[zY6 h.1,zZS h.2]
  ·rw[wV,decide_eq_true_eq] at h;rw[h]
  ·simp only[Bool.and_eq_true] at h;rw[zMK h.1.1,zMK h.1.2,zGM (zGM ih) _ _ h.2]
  ·rw[zGM ih _ _ h]
  ·simp only[Bool.and_eq_true] at h;rw[Nat.eq_of_beq_eq_true h.1,ih _ _ h.2]
  ·rfl
  ·rw[Nat.eq_of_beq_eq_true h]
  ·rfl
  ·rfl
  rfl
def beqA:AV→AV→Bool
 |.t x,.t y=>beqT 12 x y
 |_,_=>false
def yAR(x y:AV)(h:beqA x y=true):x=y:=by
 unfold beqA at h;split at h
 ·rw[zQN _ _ _ h]
 cases h
structure Known where
 f:FuncId
 args:List AV
 r:Out
def look:List Known→Oracle
 |[],_,_,_=>none
 |e::l,f,args,h=>match Nat.beq e.f f,h with
  |true,[]=>match all2 beqA e.args args with
   |true=>some (e.r,[])
   |false=>look l f args h
  |_,_=>look l f args h
def Holds(C:Cfg)(l:List Known):Prop:=∀e ∈ l,Om C e.f e.args []=some (e.r,[])
def zM4{C:Cfg}:∀ {l:List Known},Holds C l→∀f args h r,look l f args h=some r→Om C f args h=some r
 |[],_,_,_,_,_,h=>by simp [look] at h
 |e::l,hl,f,args,h,r,hx=>by
  have ih:=zM4 (l:=l) fun x hx=>hl x (List.mem_cons_of_mem _ hx)
  unfold look at hx;split at hx
  ·rename_i hf;split at hx
   ·rename_i ha;cases hx;have:=Nat.eq_of_beq_eq_true hf;have h2:=zGM yAR _ _ ha;subst this;subst h2;exact hl e (.head _)
   exact ih _ _ _ _ hx
  exact ih _ _ _ _ hx
theorem Holds.cons{C:Cfg}{l:List Known}{e:Known}(hl:Holds C l){n:Nat}(h:zJg C (look l) n e.f e.args []=some (e.r,[])):Holds C (e::l):=fun x hx=>by
 rcases List.mem_cons.1 hx with rfl|hx
 ·exact zGn (zM4 hl) h
 exact hl x hx
theorem Holds.nil{C:Cfg}:Holds C []:=fun _ h=>by cases h
end Go.Ab
