/- Lemmas. -/
import Derived.Test.YtchgjnkleakhoaaGreatDoorG18
import Derived.Test.YtchgjnkleakhoaaGreatDoorG04
set_option maxRecDepth 1000000
set_option maxHeartbeats 40000000
set_option linter.all false
namespace Go.Ab
open Go.Proofs
attribute [local irreducible] W RW RR
def zJ3(v:Val)(e:Int):∃x:Ans,Om CC 133 [.t (.agg [.int .u8 v.k,.int .i64 v.n,.str v.s]),.t (.int .i64 e)] []=some (.val (.t (.agg [.int .u8 x.v.k,.int .i64 x.v.n,.str x.v.s,.int .i64 x.e])),[])∧(VOK v→VOK x.v):=by
 refine zJ zZ9 rfl ?_
 (have F_:=c5 zF zE zD zB (c3 zU xG yBD);show W CC 0 11 (zA 133) _ ⟨[(0,_),(1,_)],[]⟩ _)
 (repeat' first|refine gA ?_|refine gT ?_ ?_<;>intro hv<;>try cases hv;done|fail)
 all_goals refine aJ ?_<;>(refine⟨⟨⟨_,_,_⟩,_⟩,⟨rfl,rfl⟩,?_⟩;first|exact fun _=>yR|exact fun h=>h)
noncomputable def Told(v:Val)(e:Int):Ans:=(zJ3 v e).choose
def zFj(v:Val)(e:Int):Om CC 133 [.t (.agg [.int .u8 v.k,.int .i64 v.n,.str v.s]),.t (.int .i64 e)] []=some (.val (.t (.agg [.int .u8 (Told v e).v.k,.int .i64 (Told v e).v.n,.str (Told v e).v.s,.int .i64 (Told v e).e])),[]):=(zJ3 v e).choose_spec.1
def zGs(v:Val)(e:Int):VOK v→VOK (Told v e).v:=(zJ3 v e).choose_spec.2
def xaW:=c5 zF zE zD zB (c3 zU xG zUq)
def zJK(e:Int):∃x:Ans,Om CC 112 [.t (.int .i64 e)] []=some (.val (.t (.agg [.int .u8 x.v.k,.int .i64 x.v.n,.str x.v.s,.int .i64 x.e])),[])∧(VOK x.v):=by
 refine zJ zQK rfl ?_
 (have F_:=xaW;show W CC 0 5 (zA 112) _ ⟨[(0,_)],[]⟩ _)
 (repeat' first|refine gA ?_|refine gT ?_ ?_<;>intro hv<;>try cases hv;done|fail)
 all_goals refine aJ ?_<;>(refine⟨⟨⟨_,_,_⟩,_⟩,⟨rfl,rfl⟩,?_⟩;exact yR)
noncomputable def Fail(e:Int):Ans:=(zJK e).choose
def zBs(e:Int):Om CC 112 [.t (.int .i64 e)] []=some (.val (.t (.agg [.int .u8 (Fail e).v.k,.int .i64 (Fail e).v.n,.str (Fail e).v.s,.int .i64 (Fail e).e])),[]):=(zJK e).choose_spec.1
def zEC(e:Int):VOK (Fail e).v:=(zJK e).choose_spec.2
def zU2(e:Int):Om CC 112 [.t (.int .i64 e)] []=some (.val (.t (.agg [.int .u8 0,.int .i64 0,.str [],.int .i64 e])),[]):=by
 refine zK zQK rfl ?_
 (have F_:=xaW;show W CC 0 5 (zA 112) _ ⟨[(0,_)],[]⟩ _)
 (repeat' first|refine gA ?_|refine gT ?_ ?_<;>intro hv<;>try cases hv;done|fail)
 all_goals refine aK ?_ ?_<;>(first|rfl)
def zQa(e:Int):Fail e=⟨VZ,e⟩:=by
 have h:=(zBs e).symm.trans (zU2 e);generalize Fail e=x at h;obtain⟨⟨k,n,s⟩,e'⟩:=x;cases h
 rfl
def zS5(e:Int)(h:e≠0):TB (Fail e):=by rw[zQa];exact⟨zAA,.inl h⟩
def zPB(b:Bool):Om CC 86 [.t (.bool b)] []=some (.val (.t (.agg [.int .u8 4,.int .i64 (match b with|true=>1|false=>0),.str []])),[]):=by
 cases b with
 |true =>
  refine zK zOk rfl ?_
  (have F_:=xaU;show W CC 0 6 (zA 86) _ ⟨[(0,_)],[]⟩ _)
  (repeat' first|refine gA ?_|refine gT ?_ ?_<;>intro hv<;>try cases hv;done|fail)
  all_goals refine aK ?_ ?_<;>(first|rfl)
 |false =>
  refine zK zOk rfl ?_
  (have F_:=xaU;show W CC 0 6 (zA 86) _ ⟨[(0,_)],[]⟩ _)
  (repeat' first|refine gA ?_|refine gT ?_ ?_<;>intro hv<;>try cases hv;done|fail)
  all_goals refine aK ?_ ?_<;>(first|rfl)
def zH8(b:Bool):uR b=⟨4,(match b with|true=>1|false=>0),[]⟩:=by
 have h:=(uU b).symm.trans (zPB b);generalize uR b=x at h;obtain⟨k,n,s⟩:=x;cases b<;>(cases h;rfl)
def zKl(b:Bool):TB ⟨uR b,0⟩:=by
 rw[zH8];cases b
 ·exact⟨zOO,.inr (.inr (.inl rfl))⟩
 exact⟨zMg,.inr (.inl rfl)⟩
def zJ8(v:Val):∃x:Ans,Om CC 111 [.t (.agg [.int .u8 v.k,.int .i64 v.n,.str v.s])] []=some (.val (.t (.agg [.int .u8 x.v.k,.int .i64 x.v.n,.str x.v.s,.int .i64 x.e])),[])∧(VOK v→VOK x.v):=by
 refine zJ zZY rfl ?_
 (have F_:=c5 zF zQ zE zD (c5 zB zU xG yBF (c3 zUn zDi (c2 @zQ8 @zBs)));show W CC 0 9 (zA 111) _ ⟨[(0,_)],[]⟩ _)
 (repeat' first|refine gA ?_|refine gT ?_ ?_<;>intro hv<;>try cases hv;done|fail)
 all_goals refine aJ ?_<;>(refine⟨⟨⟨_,_,_⟩,_⟩,⟨rfl,rfl⟩,?_⟩;first|exact fun _=>zEC _|exact fun h=>h)
noncomputable def Held(v:Val):Ans:=(zJ8 v).choose
def yAz(v:Val):Om CC 111 [.t (.agg [.int .u8 v.k,.int .i64 v.n,.str v.s])] []=some (.val (.t (.agg [.int .u8 (Held v).v.k,.int .i64 (Held v).v.n,.str (Held v).v.s,.int .i64 (Held v).e])),[]):=(zJ8 v).choose_spec.1
def zO9(v:Val):VOK v→VOK (Held v).v:=(zJ8 v).choose_spec.2
def AOK(a:Ans):Prop:=VOK a.v
def zBP{kl:List Ans}(h:∀a ∈ kl,AOK a)(i:Nat):VOK (getA kl i).v:=by
 unfold getA;rw[List.getD_eq_getElem?_getD];cases hi:kl[i]? with
 |none=>exact yR
 |some a=>exact h a (List.mem_of_getElem? hi)
def zDS(nl cl nl2 cl2:Bool)(kl:List Ans)(ns:List (List Tree))(i:Nat):Om CC 174 [.t (.agg [.sl nl cl (kl.map Ans.c),.sl nl2 cl2 ns]),.t (.int .i64 (i:Int))] []=some (.val (.t (.agg [.int .u8 (getA kl i).v.k,.int .i64 (getA kl i).v.n,.str (getA kl i).v.s,.int .i64 (getA kl i).e])),[]):=by
 refine zK yAR rfl ?_
 (have F_:=c5 zF zG zQ zE (c5 zD zB zU kW (c3 xG kY (c2 jA yDg)));show W CC 0 16 (zA 174) _ ⟨[(0,_),(1,_)],[]⟩ _)
 by_cases hi:i<kl.length
 ·have hd:decide ((i:Int) ≥ kl.length)=false:=by simp;omega
  have he:kl[i]?=some kl[i]:=List.getElem?_eq_getElem hi;have hg:getA kl i=kl[i]:=by unfold getA;rw[List.getD_eq_getElem?_getD,he];rfl
  rw[hg];generalize kl[i]=a at he
  (have x0_:=@Ans.c.eq_1;(repeat' first|refine gA ?_|refine gT ?_ ?_<;>intro hv<;>try cases hv;done|fail);all_goals clear x0_)
  (refine aK ?_ ?_)
  ·rfl
  rfl
 have hd:decide ((i:Int) ≥ kl.length)=true:=by simp;omega
 have hg:getA kl i=AZero:=by unfold getA;rw[List.getD_eq_getElem?_getD,List.getElem?_eq_none (by omega)];rfl
 rw[hg]
 (have x0_:=@Ans.c.eq_1;(repeat' first|refine gA ?_|refine gT ?_ ?_<;>intro hv<;>try cases hv;done|fail);all_goals clear x0_)
 (refine aK ?_ ?_)
 ·rfl
 rfl
def zG0(l:List Val)(nl cl:Bool)(hl:l.length<9223372036854775808):∃x:Bool,Om CC 178 [.t (.sl nl cl (l.map Val.c))] []=some (.val (.t (.bool x)),[])∧True:=by
 refine zJ yAb rfl ?_
 (have F_:=c5 zF zG zE zD (c3 xE zB yCb);show W CC 0 15 (zA 178) _ ⟨[(0,_)],[]⟩ _)
 (repeat' first|refine gA ?_|refine gT ?_ ?_<;>intro hv<;>try cases hv;done|fail)
 refine zY (α:=Nat) (fun i=>⟨[(5,.t (.sl nl cl (l.map Val.c))),(6,.t (.int .i64 l.length)),(7,.t (.int .i64 i))],[]⟩) (fun i=>l.length - i) (fun i=>i≤l.length) 0 (by kernel_rfl) (Nat.zero_le _) ?_;intro i hi
 by_cases hi':i<l.length
 ·have hw:=wI64 i (by omega);have he:l[i]?=some l[i]:=List.getElem?_eq_getElem hi';have hd:decide ((i:Int)<l.length)=true:=by simpa using hi'
  generalize l[i]=v at he
  (repeat' first|refine gA ?_|refine gT ?_ ?_<;>intro hv<;>try cases hv;done|fail)
  all_goals first
   |((refine aJ ?_);exact⟨_,⟨rfl,rfl⟩,trivial⟩)
   |exact zC (i+1) (by omega) (by omega) (by kernel_rfl)
 have hd:decide ((i:Int)<l.length)=false:=by simpa using hi'
 (repeat' first|refine gA ?_|refine gT ?_ ?_<;>intro hv<;>try cases hv;done|fail)
 (refine aJ ?_)
 exact⟨_,⟨rfl,rfl⟩,trivial⟩
def zHh(a b:Int)(l:List Val)(nl cl:Bool)(hl:l.length<9223372036854775808):∃x:Bool,Om CC 180 [.t (.int .u8 a),.t (.int .u8 b),.t (.sl nl cl (l.map Val.c))] []=some (.val (.t (.bool x)),[])∧True:=by
 refine zJ zZq rfl ?_
 (have F_:=c5 zF zG zE zD (c3 xE zB yCl);show W CC 0 31 (zA 180) _ ⟨[(0,_),(1,_),(2,_)],[]⟩ _)
 (repeat' first|refine gA ?_|refine gT ?_ ?_<;>intro hv<;>try cases hv;done|fail)
 refine zY (α:=Nat) (fun i=>⟨[(0,.t (.int .u8 a)),(1,.t (.int .u8 b)),(9,.t (.sl nl cl (l.map Val.c))),(10,.t (.int .i64 l.length)),(11,.t (.int .i64 i))],[]⟩) (fun i=>l.length - i) (fun i=>i≤l.length) 0 (by kernel_rfl) (Nat.zero_le _) ?_;intro i hi
 by_cases hi':i<l.length
 ·have hw:=wI64 i (by omega);have he:l[i]?=some l[i]:=List.getElem?_eq_getElem hi';have hd:decide ((i:Int)<l.length)=true:=by simpa using hi'
  generalize l[i]=v at he
  (repeat' first|refine gA ?_|refine gT ?_ ?_<;>intro hv<;>try cases hv;done|fail)
  all_goals first
   |((refine aJ ?_);exact⟨_,⟨rfl,rfl⟩,trivial⟩)
   |exact zC (i+1) (by omega) (by omega) (by kernel_rfl)
 have hd:decide ((i:Int)<l.length)=false:=by simpa using hi'
 (repeat' first|refine gA ?_|refine gT ?_ ?_<;>intro hv<;>try cases hv;done|fail)
 (refine aJ ?_)
 exact⟨_,⟨rfl,rfl⟩,trivial⟩
noncomputable def vB(a:Ans):Ans:=if a.e=0∧a.v.k≠4∧a.v.k≠0 then Fail 8 else a
def zGU(nl cl nl2 cl2:Bool)(kl:List Ans)(ns:List (List Tree))(i:Nat)(hk:∀a ∈ kl,AOK a):∃x:Ans,Om CC 114 [.t (.agg [.sl nl cl (kl.map Ans.c),.sl nl2 cl2 ns]),.t (.int .i64 (i:Int))] []=some (.val (.t (.agg [.int .u8 x.v.k,.int .i64 x.v.n,.str x.v.s,.int .i64 x.e])),[])∧VOK x.v∧x=vB (getA kl i):=by
 refine zJ yBd rfl ?_
 (have F_:=c5 zF zG zQ zE (c5 zD zB zU kW (c5 xG kY jA yFG (c3 zGu zDi @zBs)));show W CC 0 26 (zA 114) _ ⟨[(0,_),(1,_)],[]⟩ _)
 have hg:=zDS nl cl nl2 cl2 kl ns i;have hp:=zBP hk i;clear hk;generalize getA kl i=g at *
 (repeat' first|refine gA ?_|refine gT ?_ ?_<;>intro hv<;>try cases hv;done|fail)
 all_goals refine aJ ?_<;>(first|exact⟨g,⟨rfl,rfl⟩,hp,by clear F_;unfold vB;rw[if_neg];intro hq;simp_all⟩|exact⟨Fail 8,⟨rfl,rfl⟩,zEC _,by clear F_;unfold vB;rw[if_pos];simp_all⟩)
noncomputable def zBk(t a b:Ans):Ans:=if t.e≠0∨t.v.k=0 then t else if t.v.n=1 then a else b
def zSL(nl cl nl2 cl2:Bool)(kl:List Ans)(ns:List (List Tree))(hk:∀a ∈ kl,AOK a):∃x:Ans,Om CC 144 [.t (.agg [.sl nl cl (kl.map Ans.c),.sl nl2 cl2 ns])] []=some (.val (.t (.agg [.int .u8 x.v.k,.int .i64 x.v.n,.str x.v.s,.int .i64 x.e])),[])∧VOK x.v∧x=zBk (vB (getA kl 0)) (getA kl 1) (getA kl 2):=by
 refine zJ yA8 rfl ?_
 (have F_:=c5 zF zG zQ zE (c5 zD zB zU kW (c5 xG kY jA yCF (c2 zGu zOZ)));show W CC 0 26 (zA 144) _ ⟨[(0,_)],[]⟩ _)
 obtain⟨t,ht,htp,ht2⟩:=zGU nl cl nl2 cl2 kl ns 0 hk;rw[← ht2];have g1:=zDS nl cl nl2 cl2 kl ns 1;have g2:=zDS nl cl nl2 cl2 kl ns 2;have p1:=zBP hk 1;have p2:=zBP hk 2;clear hk ht2;have ht:Om CC 114 [.t (.agg [.sl nl cl (kl.map Ans.c),.sl nl2 cl2 ns]),.t (.int .i64 0)] []=_:=ht;have g1:Om CC 174 [.t (.agg [.sl nl cl (kl.map Ans.c),.sl nl2 cl2 ns]),.t (.int .i64 1)] []=_:=g1;have g2:Om CC 174 [.t (.agg [.sl nl cl (kl.map Ans.c),.sl nl2 cl2 ns]),.t (.int .i64 2)] []=_:=g2;generalize getA kl 1=a at *;generalize getA kl 2=b at *
 (repeat' first|refine gA ?_|refine gT ?_ ?_<;>intro hv<;>try cases hv;done|fail)
 all_goals refine aJ ?_<;>(clear F_ ht g1 g2)<;>(first|exact⟨t,⟨rfl,rfl⟩,htp,by unfold zBk;rw[if_pos];simp_all⟩|exact⟨a,⟨rfl,rfl⟩,p1,by unfold zBk;rw[if_neg,if_pos]<;>simp_all⟩|exact⟨b,⟨rfl,rfl⟩,p2,by unfold zBk;rw[if_neg,if_neg]<;>simp_all⟩)
noncomputable def notK(t:Ans):Ans:=if t.e=0 then ⟨NotV t.v,0⟩ else t
def Lp(kl:List Ans)(i:Nat)(out:List Val):Prop:=(∀k,k<i→(getA kl k).e=0)∧out=(List.range i).map fun k=>(getA kl k).v
theorem Lp.nil{kl:List Ans}:Lp kl 0 []:=⟨fun k h=>absurd h (Nat.not_lt_zero _),rfl⟩
theorem Lp.step{kl:List Ans}{i:Nat}{out:List Val}{g:Ans}(h:Lp kl i out)(hg:getA kl i=g)(he:g.e=0):Lp kl (i+1) (out++[g.v]) :=
 ⟨fun k hk=>(Nat.lt_succ_iff_lt_or_eq.1 hk).elim (h.1 k) fun e=>by rw[e,hg];exact he,by rw[List.range_succ,List.map_append,← h.2];simp [hg]⟩
def Lf(n:Nat)(kl:List Ans)(O:List Val→Ans→Prop)(x:Ans):Prop:=(∃k,k<n∧(getA kl k).e≠0∧x=getA kl k)∨((∀k,k<n→(getA kl k).e=0)∧O ((List.range n).map fun k=>(getA kl k).v) x)
def xaX:=c5 zF zG zQ zE (c5 zD xE zB zU (c5 kW xG kY jA (c3 zBH zLN zGu)))
def zGJ (f:Nat) (hb:yX Tryz.prog f=true) (hbp:∀x,CC.prim f x=none) (nl cl nl2 cl2:Bool) (kl:List Ans) (ns:List (List Tree)) (n:Nat) (hn:n<4294967295) (hk:∀a ∈ kl,AOK a)
  (hdo:∀(l:List Val) (x y:Bool),l.length=n→(∀v ∈ l,VOK v)→∃a:Ans,Om CC f [.t (.sl x y (l.map Val.c))] []=some (.val (.t (.agg [.int .u8 a.v.k,.int .i64 a.v.n,.str a.v.s,.int .i64 a.e])),[])∧AOK a) :
  ∃x:Ans,Om CC 131 [.t (.agg [.sl nl cl (kl.map Ans.c),.sl nl2 cl2 ns]),.t (.int .i64 (n:Int)),.t (.fn f)] []=some (.val (.t (.agg [.int .u8 x.v.k,.int .i64 x.v.n,.str x.v.s,.int .i64 x.e])),[])∧AOK x∧Lf n kl (fun l a=>Om CC f [.t (.sl l.isEmpty l.isEmpty (l.map Val.c))] []=some (.val (.t (.agg [.int .u8 a.v.k,.int .i64 a.v.n,.str a.v.s,.int .i64 a.e])),[])) x:=by
 refine zAa zIR rfl ?_
 (have F_:=xaX;show W CC 0 30 (zA 131) _ ⟨[(0,_),(1,_),(2,_)],[]⟩ _)
 (repeat' first|refine gA ?_|refine gT ?_ ?_<;>intro hv<;>try cases hv;done|fail)
 refine zY (α:=Nat×Bool×List Val) (fun a=>⟨[(2,.t (.fn f)),(3,.box 0 0),(6,.box 1 0),(7,match a.2.1 with|true=>.hs 2 0|false=>.t (.sl true true [])),(10,.t (.int .i64 (n:Int))),(11,.t (.int .i64 a.1))],
   match a.2.1 with|true=>[.box [.t (.sl nl cl (kl.map Ans.c)),.t (.sl nl2 cl2 ns)],.box (AZero.c.map .t),.arr 3 0 false (a.2.2.map Val.c)]|false=>[.box [.t (.sl nl cl (kl.map Ans.c)),.t (.sl nl2 cl2 ns)],.box (AZero.c.map .t)]⟩)
  (fun a=>n - a.1) (fun a=>a.1≤n∧a.2.2.length=a.1∧(a.2.1=false↔a.2.2=[])∧(∀v ∈ a.2.2,VOK v)∧Lp kl a.1 a.2.2) (0,false,[]) (by kernel_rfl) ⟨Nat.zero_le _,rfl,by simp,fun v hv=>(by cases hv),Lp.nil⟩ ?_
 rintro⟨i,st,out⟩ ⟨hi,ho,hno,hor,hlp⟩
 try dsimp only at hi ho hno hor hlp
 have hle:lens 3 (out.map Val.c)=true:=vQ Val.c 3 (fun a=>rfl) out;simp only[AZero,Zero,Ans.c,List.map_cons,List.map_nil]
 by_cases hi':i<n
 ·have hw:=wI64 i (by omega);have hd:decide ((i:Int)<(n:Int))=true:=by simpa using hi'
  have hsm:decide (i+1<4294967296)=true:=by simp;omega
  have hg:=zDS nl cl nl2 cl2 kl ns i;have hp:=zBP hk i;have hlpi:=hlp;have herr0:=fun(g:Ans) (hgg:getA kl i=g) (he:g.e≠0) (O:List Val→Ans→Prop)=>(show Lf n kl O g from .inl ⟨i,hi',by rw[hgg];exact he,hgg.symm⟩)
  have hstp0:=fun(g:Ans) (hgg:getA kl i=g) (he:g.e=0)=>hlp.step hgg he
  generalize hgg:getA kl i=g at hg hp;have herr:=Hid.mk (herr0 g hgg);have hstp:=Hid.mk (hstp0 g hgg);clear hlp hlpi herr0 hstp0 hgg;clear hk hdo;cases st with
  |true =>
   clear hno
   (repeat' first|refine gA ?_|refine gT ?_ ?_<;>intro hv<;>try cases hv;done|fail)
   ·(refine aJ ?_)
    exact⟨g,⟨rfl,rfl⟩,hp,herr.h (by clear F_;intro h0;simp_all) _⟩
   refine zC (i+1,true,out++[g.v]) (by first|omega|(dsimp only;omega)) ⟨by first|omega|(dsimp only;omega),by simp [ho],by simp,fun x hx=>?_,hstp.h (by clear F_;simp_all)⟩ (by(have X_:=c3 @mapA @AZero.eq_1 (c2 @Zero.eq_1 @Ans.c.eq_1);exact aTdX));rcases List.mem_append.1 hx with h|h
   ·exact hor x h
   rw[List.mem_singleton.1 h];exact hp
  |false =>
   have h0:=hno.1 rfl;subst h0;simp at ho;subst ho;clear hno hor
   (repeat' first|refine gA ?_|refine gT ?_ ?_<;>intro hv<;>try cases hv;done|fail)
   ·(refine aJ ?_)
    exact⟨g,⟨rfl,rfl⟩,hp,herr.h (by clear F_;intro h0;simp_all) _⟩
   refine zC (1,true,[g.v]) (by first|omega|(dsimp only;omega)) ⟨by first|omega|(dsimp only;omega),by simp,by simp,fun x hx=>?_,hstp.h (by clear F_;simp_all)⟩ (by(have X_:=c3 @mapA @AZero.eq_1 (c2 @Zero.eq_1 @Ans.c.eq_1);exact aTdX));rw[List.mem_singleton.1 hx];exact hp
 have hd:decide ((i:Int)<(n:Int))=false:=by simpa using hi'
 obtain rfl:i=n:=by omega
 have hfin:=fun(O:List Val→Ans→Prop) (a:Ans) (h:O out a)=>(show Lf i kl O a from .inr ⟨hlp.1,by rw[← hlp.2];exact h⟩)
 have hfin:=Hid.mk hfin;clear hlp;cases st with
 |true =>
  obtain⟨a,ha,hap⟩:=hdo out false false (by omega) hor;have hae:=Hid.mk ha;have hem:out.isEmpty=false:=by cases out with|nil=>exact absurd (hno.2 rfl) (by decide)|cons _ _=>rfl
  clear hdo hor hk hno
  (repeat' first|refine gA ?_|refine gT ?_ ?_<;>intro hv<;>try cases hv;done|fail)
  (refine aJ ?_)
  exact⟨a,⟨rfl,rfl⟩,hap,hfin.h _ _ (by rw[hem];exact hae.h)⟩
 |false =>
  have h0:=hno.1 rfl;subst h0;obtain⟨a,ha,hap⟩:=hdo [] true true (by omega) (fun v hv=>(by cases hv));have hae:=Hid.mk ha;have hem:([]:List Val).isEmpty=true:=rfl;simp only[List.map_nil] at ha;clear hdo hor hk hno
  (repeat' first|refine gA ?_|refine gT ?_ ?_<;>intro hv<;>try cases hv;done|fail)
  (refine aJ ?_)
  exact⟨a,⟨rfl,rfl⟩,hap,hfin.h _ _ (by rw[hem];exact hae.h)⟩
def zOa (P:Ans→Prop) (hP:∀a,AOK a→a.e≠0→P a) (f:Nat) (hb:yX Tryz.prog f=true) (hbp:∀x,CC.prim f x=none) (w00:Tree) (nl cl nl2 cl2:Bool) (kl:List Ans) (ns:List (List Tree)) (n:Nat) (hn:n<4294967295) (hk:∀a ∈ kl,AOK a)
  (hdo:∀(l:List Val) (x y:Bool),l.length=n→(∀v ∈ l,VOK v)→∃a:Ans,Om CC f [.t (.sl x y (l.map Val.c)),.box 0 0] [.box [.t w00]]=some (.val (.t (.agg [.int .u8 a.v.k,.int .i64 a.v.n,.str a.v.s,.int .i64 a.e])),[.box [.t w00]])∧P a) :
  ∃x:Ans,Om CC 131 [.t (.agg [.sl nl cl (kl.map Ans.c),.sl nl2 cl2 ns]),.t (.int .i64 (n:Int)),.fn f [] [.box 0 0]] [.box [.t w00]]=some (.val (.t (.agg [.int .u8 x.v.k,.int .i64 x.v.n,.str x.v.s,.int .i64 x.e])),[.box [.t w00]])∧P x∧Lf n kl (fun l a=>Om CC f [.t (.sl l.isEmpty l.isEmpty (l.map Val.c)),.box 0 0] [.box [.t w00]]=some (.val (.t (.agg [.int .u8 a.v.k,.int .i64 a.v.n,.str a.v.s,.int .i64 a.e])),[.box [.t w00]])) x:=by
 refine zAa zIR rfl ?_
 (have F_:=xaX;show W CC 1 30 (zA 131) _ ⟨[(0,_),(1,_),(2,_)],[_]⟩ _)
 (repeat' first|refine gA ?_|refine gT ?_ ?_<;>intro hv<;>try cases hv;done|fail)
 refine zY (α:=Nat×Bool×List Val) (fun a=>⟨[(2,.fn f [] [.box 0 0]),(3,.box 1 0),(6,.box 2 0),(7,match a.2.1 with|true=>.hs 3 0|false=>.t (.sl true true [])),(10,.t (.int .i64 (n:Int))),(11,.t (.int .i64 a.1))],
   match a.2.1 with|true=>[.box [.t w00],.box [.t (.sl nl cl (kl.map Ans.c)),.t (.sl nl2 cl2 ns)],.box (AZero.c.map .t),.arr 3 0 false (a.2.2.map Val.c)]|false=>[.box [.t w00],.box [.t (.sl nl cl (kl.map Ans.c)),.t (.sl nl2 cl2 ns)],.box (AZero.c.map .t)]⟩)
  (fun a=>n - a.1) (fun a=>a.1≤n∧a.2.2.length=a.1∧(a.2.1=false↔a.2.2=[])∧(∀v ∈ a.2.2,VOK v)∧Lp kl a.1 a.2.2) (0,false,[]) (by kernel_rfl) ⟨Nat.zero_le _,rfl,by simp,fun v hv=>(by cases hv),Lp.nil⟩ ?_
 rintro⟨i,st,out⟩ ⟨hi,ho,hno,hor,hlp⟩
 try dsimp only at hi ho hno hor hlp
 have hle:lens 3 (out.map Val.c)=true:=vQ Val.c 3 (fun a=>rfl) out;simp only[AZero,Zero,Ans.c,List.map_cons,List.map_nil]
 by_cases hi':i<n
 ·have hw:=wI64 i (by omega);have hd:decide ((i:Int)<(n:Int))=true:=by simpa using hi'
  have hsm:decide (i+1<4294967296)=true:=by simp;omega
  have hg:=zDS nl cl nl2 cl2 kl ns i;have hp:=zBP hk i;have hlpi:=hlp;have herr0:=fun(g:Ans) (hgg:getA kl i=g) (he:g.e≠0) (O:List Val→Ans→Prop)=>(show Lf n kl O g from .inl ⟨i,hi',by rw[hgg];exact he,hgg.symm⟩)
  have hstp0:=fun(g:Ans) (hgg:getA kl i=g) (he:g.e=0)=>hlp.step hgg he
  generalize hgg:getA kl i=g at hg hp;have herr:=Hid.mk (herr0 g hgg);have hstp:=Hid.mk (hstp0 g hgg);clear hlp hlpi herr0 hstp0 hgg;clear hk hdo;cases st with
  |true =>
   clear hno
   (repeat' first|refine gA ?_|refine gT ?_ ?_<;>intro hv<;>try cases hv;done|fail)
   ·(refine aJ ?_)
    exact⟨g,⟨rfl,rfl⟩,hP g hp (by clear F_ hP;intro h0;simp_all),herr.h (by clear F_ hP;intro h0;simp_all) _⟩
   refine zC (i+1,true,out++[g.v]) (by first|omega|(dsimp only;omega)) ⟨by first|omega|(dsimp only;omega),by simp [ho],by simp,fun x hx=>?_,hstp.h (by clear F_;simp_all)⟩ (by(have X_:=c3 @mapA @AZero.eq_1 (c2 @Zero.eq_1 @Ans.c.eq_1);exact aTdX));rcases List.mem_append.1 hx with h|h
   ·exact hor x h
   rw[List.mem_singleton.1 h];exact hp
  |false =>
   have h0:=hno.1 rfl;subst h0;simp at ho;subst ho;clear hno hor
   (repeat' first|refine gA ?_|refine gT ?_ ?_<;>intro hv<;>try cases hv;done|fail)
   ·(refine aJ ?_)
    exact⟨g,⟨rfl,rfl⟩,hP g hp (by clear F_ hP;intro h0;simp_all),herr.h (by clear F_ hP;intro h0;simp_all) _⟩
   refine zC (1,true,[g.v]) (by first|omega|(dsimp only;omega)) ⟨by first|omega|(dsimp only;omega),by simp,by simp,fun x hx=>?_,hstp.h (by clear F_;simp_all)⟩ (by(have X_:=c3 @mapA @AZero.eq_1 (c2 @Zero.eq_1 @Ans.c.eq_1);exact aTdX));rw[List.mem_singleton.1 hx];exact hp
 have hd:decide ((i:Int)<(n:Int))=false:=by simpa using hi'
 obtain rfl:i=n:=by omega
 have hfin:=fun(O:List Val→Ans→Prop) (a:Ans) (h:O out a)=>(show Lf i kl O a from .inr ⟨hlp.1,by rw[← hlp.2];exact h⟩)
 have hfin:=Hid.mk hfin;clear hlp;cases st with
 |true =>
  obtain⟨a,ha,hap⟩:=hdo out false false (by omega) hor;have hae:=Hid.mk ha;have hem:out.isEmpty=false:=by cases out with|nil=>exact absurd (hno.2 rfl) (by decide)|cons _ _=>rfl
  clear hdo hor hk hno
  (repeat' first|refine gA ?_|refine gT ?_ ?_<;>intro hv<;>try cases hv;done|fail)
  (refine aJ ?_)
  exact⟨a,⟨rfl,rfl⟩,hap,hfin.h _ _ (by rw[hem];exact hae.h)⟩
 |false =>
  have h0:=hno.1 rfl;subst h0;obtain⟨a,ha,hap⟩:=hdo [] true true (by omega) (fun v hv=>(by cases hv));have hae:=Hid.mk ha;have hem:([]:List Val).isEmpty=true:=rfl;simp only[List.map_nil] at ha;clear hdo hor hk hno
  (repeat' first|refine gA ?_|refine gT ?_ ?_<;>intro hv<;>try cases hv;done|fail)
  (refine aJ ?_)
  exact⟨a,⟨rfl,rfl⟩,hap,hfin.h _ _ (by rw[hem];exact hae.h)⟩
def zXg (f:Nat) (hb:yX Tryz.prog f=true) (hbp:∀x,CC.prim f x=none) (w00 w10:Tree) (nl cl nl2 cl2:Bool) (kl:List Ans) (ns:List (List Tree)) (n:Nat) (hn:n<4294967295) (hk:∀a ∈ kl,AOK a)
  (hdo:∀(l:List Val) (x y:Bool),l.length=n→(∀v ∈ l,VOK v)→∃a:Ans,Om CC f [.t (.sl x y (l.map Val.c)),.box 0 0,.box 1 0] [.box [.t w00],.box [.t w10]]=some (.val (.t (.agg [.int .u8 a.v.k,.int .i64 a.v.n,.str a.v.s,.int .i64 a.e])),[.box [.t w00],.box [.t w10]])∧AOK a) :
  ∃x:Ans,Om CC 131 [.t (.agg [.sl nl cl (kl.map Ans.c),.sl nl2 cl2 ns]),.t (.int .i64 (n:Int)),.fn f [] [.box 0 0,.box 1 0]] [.box [.t w00],.box [.t w10]]=some (.val (.t (.agg [.int .u8 x.v.k,.int .i64 x.v.n,.str x.v.s,.int .i64 x.e])),[.box [.t w00],.box [.t w10]])∧AOK x∧Lf n kl (fun l a=>Om CC f [.t (.sl l.isEmpty l.isEmpty (l.map Val.c)),.box 0 0,.box 1 0] [.box [.t w00],.box [.t w10]]=some (.val (.t (.agg [.int .u8 a.v.k,.int .i64 a.v.n,.str a.v.s,.int .i64 a.e])),[.box [.t w00],.box [.t w10]])) x:=by
 refine zAa zIR rfl ?_
 (have F_:=xaX;show W CC 2 30 (zA 131) _ ⟨[(0,_),(1,_),(2,_)],[_,_]⟩ _)
 (repeat' first|refine gA ?_|refine gT ?_ ?_<;>intro hv<;>try cases hv;done|fail)
 refine zY (α:=Nat×Bool×List Val) (fun a=>⟨[(2,.fn f [] [.box 0 0,.box 1 0]),(3,.box 2 0),(6,.box 3 0),(7,match a.2.1 with|true=>.hs 4 0|false=>.t (.sl true true [])),(10,.t (.int .i64 (n:Int))),(11,.t (.int .i64 a.1))],
   match a.2.1 with|true=>[.box [.t w00],.box [.t w10],.box [.t (.sl nl cl (kl.map Ans.c)),.t (.sl nl2 cl2 ns)],.box (AZero.c.map .t),.arr 3 0 false (a.2.2.map Val.c)]|false=>[.box [.t w00],.box [.t w10],.box [.t (.sl nl cl (kl.map Ans.c)),.t (.sl nl2 cl2 ns)],.box (AZero.c.map .t)]⟩)
  (fun a=>n - a.1) (fun a=>a.1≤n∧a.2.2.length=a.1∧(a.2.1=false↔a.2.2=[])∧(∀v ∈ a.2.2,VOK v)∧Lp kl a.1 a.2.2) (0,false,[]) (by kernel_rfl) ⟨Nat.zero_le _,rfl,by simp,fun v hv=>(by cases hv),Lp.nil⟩ ?_
 rintro⟨i,st,out⟩ ⟨hi,ho,hno,hor,hlp⟩
 try dsimp only at hi ho hno hor hlp
 have hle:lens 3 (out.map Val.c)=true:=vQ Val.c 3 (fun a=>rfl) out;simp only[AZero,Zero,Ans.c,List.map_cons,List.map_nil]
 by_cases hi':i<n
 ·have hw:=wI64 i (by omega);have hd:decide ((i:Int)<(n:Int))=true:=by simpa using hi'
  have hsm:decide (i+1<4294967296)=true:=by simp;omega
  have hg:=zDS nl cl nl2 cl2 kl ns i;have hp:=zBP hk i;have hlpi:=hlp;have herr0:=fun(g:Ans) (hgg:getA kl i=g) (he:g.e≠0) (O:List Val→Ans→Prop)=>(show Lf n kl O g from .inl ⟨i,hi',by rw[hgg];exact he,hgg.symm⟩)
  have hstp0:=fun(g:Ans) (hgg:getA kl i=g) (he:g.e=0)=>hlp.step hgg he
  generalize hgg:getA kl i=g at hg hp;have herr:=Hid.mk (herr0 g hgg);have hstp:=Hid.mk (hstp0 g hgg);clear hlp hlpi herr0 hstp0 hgg;clear hk hdo;cases st with
  |true =>
   clear hno
   (repeat' first|refine gA ?_|refine gT ?_ ?_<;>intro hv<;>try cases hv;done|fail)
   ·(refine aJ ?_)
    exact⟨g,⟨rfl,rfl⟩,hp,herr.h (by clear F_;intro h0;simp_all) _⟩
   refine zC (i+1,true,out++[g.v]) (by first|omega|(dsimp only;omega)) ⟨by first|omega|(dsimp only;omega),by simp [ho],by simp,fun x hx=>?_,hstp.h (by clear F_;simp_all)⟩ (by(have X_:=c3 @mapA @AZero.eq_1 (c2 @Zero.eq_1 @Ans.c.eq_1);exact aTdX));rcases List.mem_append.1 hx with h|h
   ·exact hor x h
   rw[List.mem_singleton.1 h];exact hp
  |false =>
   have h0:=hno.1 rfl;subst h0;simp at ho;subst ho;clear hno hor
   (repeat' first|refine gA ?_|refine gT ?_ ?_<;>intro hv<;>try cases hv;done|fail)
   ·(refine aJ ?_)
    exact⟨g,⟨rfl,rfl⟩,hp,herr.h (by clear F_;intro h0;simp_all) _⟩
   refine zC (1,true,[g.v]) (by first|omega|(dsimp only;omega)) ⟨by first|omega|(dsimp only;omega),by simp,by simp,fun x hx=>?_,hstp.h (by clear F_;simp_all)⟩ (by(have X_:=c3 @mapA @AZero.eq_1 (c2 @Zero.eq_1 @Ans.c.eq_1);exact aTdX));rw[List.mem_singleton.1 hx];exact hp
 have hd:decide ((i:Int)<(n:Int))=false:=by simpa using hi'
 obtain rfl:i=n:=by omega
 have hfin:=fun(O:List Val→Ans→Prop) (a:Ans) (h:O out a)=>(show Lf i kl O a from .inr ⟨hlp.1,by rw[← hlp.2];exact h⟩)
 have hfin:=Hid.mk hfin;clear hlp;cases st with
 |true =>
  obtain⟨a,ha,hap⟩:=hdo out false false (by omega) hor;have hae:=Hid.mk ha;have hem:out.isEmpty=false:=by cases out with|nil=>exact absurd (hno.2 rfl) (by decide)|cons _ _=>rfl
  clear hdo hor hk hno
  (repeat' first|refine gA ?_|refine gT ?_ ?_<;>intro hv<;>try cases hv;done|fail)
  (refine aJ ?_)
  exact⟨a,⟨rfl,rfl⟩,hap,hfin.h _ _ (by rw[hem];exact hae.h)⟩
 |false =>
  have h0:=hno.1 rfl;subst h0;obtain⟨a,ha,hap⟩:=hdo [] true true (by omega) (fun v hv=>(by cases hv));have hae:=Hid.mk ha;have hem:([]:List Val).isEmpty=true:=rfl;simp only[List.map_nil] at ha;clear hdo hor hk hno
  (repeat' first|refine gA ?_|refine gT ?_ ?_<;>intro hv<;>try cases hv;done|fail)
  (refine aJ ?_)
  exact⟨a,⟨rfl,rfl⟩,hap,hfin.h _ _ (by rw[hem];exact hae.h)⟩
def zVW (P:Ans→Prop) (hP:∀a,AOK a→a.e≠0→P a) (f:Nat) (hb:yX Tryz.prog f=true) (hbp:∀x,CC.prim f x=none) (w00 w01 w10:Tree) (nl cl nl2 cl2:Bool) (kl:List Ans) (ns:List (List Tree)) (n:Nat) (hn:n<4294967295) (hk:∀a ∈ kl,AOK a)
  (hdo:∀(l:List Val) (x y:Bool),l.length=n→(∀v ∈ l,VOK v)→∃a:Ans,Om CC f [.t (.sl x y (l.map Val.c)),.box 0 0,.box 1 0] [.box [.t w00,.t w01],.box [.t w10]]=some (.val (.t (.agg [.int .u8 a.v.k,.int .i64 a.v.n,.str a.v.s,.int .i64 a.e])),[.box [.t w00,.t w01],.box [.t w10]])∧P a) :
  ∃x:Ans,Om CC 131 [.t (.agg [.sl nl cl (kl.map Ans.c),.sl nl2 cl2 ns]),.t (.int .i64 (n:Int)),.fn f [] [.box 0 0,.box 1 0]] [.box [.t w00,.t w01],.box [.t w10]]=some (.val (.t (.agg [.int .u8 x.v.k,.int .i64 x.v.n,.str x.v.s,.int .i64 x.e])),[.box [.t w00,.t w01],.box [.t w10]])∧P x∧Lf n kl (fun l a=>Om CC f [.t (.sl l.isEmpty l.isEmpty (l.map Val.c)),.box 0 0,.box 1 0] [.box [.t w00,.t w01],.box [.t w10]]=some (.val (.t (.agg [.int .u8 a.v.k,.int .i64 a.v.n,.str a.v.s,.int .i64 a.e])),[.box [.t w00,.t w01],.box [.t w10]])) x:=by
 refine zAa zIR rfl ?_
 (have F_:=xaX;show W CC 2 30 (zA 131) _ ⟨[(0,_),(1,_),(2,_)],[_,_]⟩ _)
 (repeat' first|refine gA ?_|refine gT ?_ ?_<;>intro hv<;>try cases hv;done|fail)
 refine zY (α:=Nat×Bool×List Val) (fun a=>⟨[(2,.fn f [] [.box 0 0,.box 1 0]),(3,.box 2 0),(6,.box 3 0),(7,match a.2.1 with|true=>.hs 4 0|false=>.t (.sl true true [])),(10,.t (.int .i64 (n:Int))),(11,.t (.int .i64 a.1))],
   match a.2.1 with|true=>[.box [.t w00,.t w01],.box [.t w10],.box [.t (.sl nl cl (kl.map Ans.c)),.t (.sl nl2 cl2 ns)],.box (AZero.c.map .t),.arr 3 0 false (a.2.2.map Val.c)]|false=>[.box [.t w00,.t w01],.box [.t w10],.box [.t (.sl nl cl (kl.map Ans.c)),.t (.sl nl2 cl2 ns)],.box (AZero.c.map .t)]⟩)
  (fun a=>n - a.1) (fun a=>a.1≤n∧a.2.2.length=a.1∧(a.2.1=false↔a.2.2=[])∧(∀v ∈ a.2.2,VOK v)∧Lp kl a.1 a.2.2) (0,false,[]) (by kernel_rfl) ⟨Nat.zero_le _,rfl,by simp,fun v hv=>(by cases hv),Lp.nil⟩ ?_
 rintro⟨i,st,out⟩ ⟨hi,ho,hno,hor,hlp⟩
 try dsimp only at hi ho hno hor hlp
 have hle:lens 3 (out.map Val.c)=true:=vQ Val.c 3 (fun a=>rfl) out;simp only[AZero,Zero,Ans.c,List.map_cons,List.map_nil]
 by_cases hi':i<n
 ·have hw:=wI64 i (by omega);have hd:decide ((i:Int)<(n:Int))=true:=by simpa using hi'
  have hsm:decide (i+1<4294967296)=true:=by simp;omega
  have hg:=zDS nl cl nl2 cl2 kl ns i;have hp:=zBP hk i;have hlpi:=hlp;have herr0:=fun(g:Ans) (hgg:getA kl i=g) (he:g.e≠0) (O:List Val→Ans→Prop)=>(show Lf n kl O g from .inl ⟨i,hi',by rw[hgg];exact he,hgg.symm⟩)
  have hstp0:=fun(g:Ans) (hgg:getA kl i=g) (he:g.e=0)=>hlp.step hgg he
  generalize hgg:getA kl i=g at hg hp;have herr:=Hid.mk (herr0 g hgg);have hstp:=Hid.mk (hstp0 g hgg);clear hlp hlpi herr0 hstp0 hgg;clear hk hdo;cases st with
  |true =>
   clear hno
   (repeat' first|refine gA ?_|refine gT ?_ ?_<;>intro hv<;>try cases hv;done|fail)
   ·(refine aJ ?_)
    exact⟨g,⟨rfl,rfl⟩,hP g hp (by clear F_ hP;intro h0;simp_all),herr.h (by clear F_ hP;intro h0;simp_all) _⟩
   refine zC (i+1,true,out++[g.v]) (by first|omega|(dsimp only;omega)) ⟨by first|omega|(dsimp only;omega),by simp [ho],by simp,fun x hx=>?_,hstp.h (by clear F_;simp_all)⟩ (by(have X_:=c3 @mapA @AZero.eq_1 (c2 @Zero.eq_1 @Ans.c.eq_1);exact aTdX));rcases List.mem_append.1 hx with h|h
   ·exact hor x h
   rw[List.mem_singleton.1 h];exact hp
  |false =>
   have h0:=hno.1 rfl;subst h0;simp at ho;subst ho;clear hno hor
   (repeat' first|refine gA ?_|refine gT ?_ ?_<;>intro hv<;>try cases hv;done|fail)
   ·(refine aJ ?_)
    exact⟨g,⟨rfl,rfl⟩,hP g hp (by clear F_ hP;intro h0;simp_all),herr.h (by clear F_ hP;intro h0;simp_all) _⟩
   refine zC (1,true,[g.v]) (by first|omega|(dsimp only;omega)) ⟨by first|omega|(dsimp only;omega),by simp,by simp,fun x hx=>?_,hstp.h (by clear F_;simp_all)⟩ (by(have X_:=c3 @mapA @AZero.eq_1 (c2 @Zero.eq_1 @Ans.c.eq_1);exact aTdX));rw[List.mem_singleton.1 hx];exact hp
 have hd:decide ((i:Int)<(n:Int))=false:=by simpa using hi'
 obtain rfl:i=n:=by omega
 have hfin:=fun(O:List Val→Ans→Prop) (a:Ans) (h:O out a)=>(show Lf i kl O a from .inr ⟨hlp.1,by rw[← hlp.2];exact h⟩)
 have hfin:=Hid.mk hfin;clear hlp;cases st with
 |true =>
  obtain⟨a,ha,hap⟩:=hdo out false false (by omega) hor;have hae:=Hid.mk ha;have hem:out.isEmpty=false:=by cases out with|nil=>exact absurd (hno.2 rfl) (by decide)|cons _ _=>rfl
  clear hdo hor hk hno
  (repeat' first|refine gA ?_|refine gT ?_ ?_<;>intro hv<;>try cases hv;done|fail)
  (refine aJ ?_)
  exact⟨a,⟨rfl,rfl⟩,hap,hfin.h _ _ (by rw[hem];exact hae.h)⟩
 |false =>
  have h0:=hno.1 rfl;subst h0;obtain⟨a,ha,hap⟩:=hdo [] true true (by omega) (fun v hv=>(by cases hv));have hae:=Hid.mk ha;have hem:([]:List Val).isEmpty=true:=rfl;simp only[List.map_nil] at ha;clear hdo hor hk hno
  (repeat' first|refine gA ?_|refine gT ?_ ?_<;>intro hv<;>try cases hv;done|fail)
  (refine aJ ?_)
  exact⟨a,⟨rfl,rfl⟩,hap,hfin.h _ _ (by rw[hem];exact hae.h)⟩
def yN(b:Bool):List Tree:=[.bool b]
noncomputable def zCF(F:Val→Val→Val)(e:Int)(t u:Ans):Ans:=if t.e≠0∨(t.v.k=4∧t.v.n=e) then t else if u.e≠0 then u else ⟨F t.v u.v,0⟩
def zQv (f:Nat) (hb:yX Tryz.prog f=true) (hbp:∀x,CC.prim f x=none) (F:Val→Val→Val) (hF:∀a b,VOK a→VOK b→Om CC f [.t (.sl false false [[.int .u8 a.k,.int .i64 a.n,.str a.s],[.int .u8 b.k,.int .i64 b.n,.str b.s]])] []=some (.val (.t (.agg [.int .u8 (F a b).k,.int .i64 (F a b).n,.str (F a b).s])),[]))
  (hFp:∀a b,VOK a→VOK b→VOK (F a b)) (e:Int) (nl cl nl2 cl2:Bool) (kl:List Ans) (nb:List Bool) (hk:∀a ∈ kl,AOK a) :
  ∃x:Ans,Om CC 113 [.t (.agg [.sl nl cl (kl.map Ans.c),.sl nl2 cl2 (nb.map yN)]),.t (.int .i64 e),.t (.fn f)] []=some (.val (.t (.agg [.int .u8 x.v.k,.int .i64 x.v.n,.str x.v.s,.int .i64 x.e])),[])∧AOK x∧x=zCF F e (vB (getA kl 0)) (vB (getA kl 1)):=by
 refine zJ zYc rfl ?_
 (have F_:=c5 zF zG zQ zE (c5 zD xE zB zU (c5 zIE kW xG kY (c3 jA yB2 zOZ)));show W CC 0 42 (zA 113) _ ⟨[(0,_),(1,_),(2,_)],[]⟩ _)
 obtain⟨t,ht,htp,ht2⟩:=zGU nl cl nl2 cl2 kl (nb.map yN) 0 hk;obtain⟨u,hu,hup,hu2⟩:=zGU nl cl nl2 cl2 kl (nb.map yN) 1 hk;rw[← ht2,← hu2];have ht:Om CC 114 [.t (.agg [.sl nl cl (kl.map Ans.c),.sl nl2 cl2 (nb.map yN)]),.t (.int .i64 0)] []=_:=ht;have hu:Om CC 114 [.t (.agg [.sl nl cl (kl.map Ans.c),.sl nl2 cl2 (nb.map yN)]),.t (.int .i64 1)] []=_:=hu;have hf:=hF t.v u.v htp hup;have hfp:=hFp t.v u.v htp hup;clear hk hF hFp ht2 hu2
 (repeat' first|refine gA ?_|refine gT ?_ ?_<;>intro hv<;>try cases hv;done|fail)
 all_goals refine aJ ?_<;>(clear F_ ht hu hf)<;>(first|exact⟨t,⟨rfl,rfl⟩,htp,by unfold zCF;rw[if_pos];simp_all⟩|exact⟨u,⟨rfl,rfl⟩,hup,by unfold zCF;rw[if_neg,if_pos]<;>simp_all⟩|exact⟨⟨F t.v u.v,0⟩,⟨rfl,rfl⟩,hfp,by unfold zCF;rw[if_neg,if_neg]<;>simp_all⟩)
def zI4(i:Nat)(k:Tree)(nl2 cl2:Bool)(nb:List Bool):∃r:Bool,Om CC 177 [.t (.int .i64 (i:Int)),.box 0 0] [.box [.t k,.t (.sl nl2 cl2 (nb.map yN))]]=some (.val (.t (.bool r)),[.box [.t k,.t (.sl nl2 cl2 (nb.map yN))]])∧r=nb.getD i false:=by
 refine zAa zY1 rfl ?_
 (have F_:=c5 zF zG zQ zE (c5 zD zB zU kW (c3 xG kY (c2 jA yDl)));show W CC 1 16 (zA 177) _ ⟨[(0,_),(1,_)],[_]⟩ _)
 by_cases hi:i<nb.length
 ·have hd:decide ((i:Int)<nb.length)=true:=by simpa using hi
  have he:nb[i]?=some nb[i]:=List.getElem?_eq_getElem hi
  (have x0_:=@yN.eq_1;(repeat' first|refine gA ?_|refine gT ?_ ?_<;>intro hv<;>try cases hv;done|fail);all_goals clear x0_)
  all_goals refine aJ ?_<;>exact⟨_,⟨rfl,rfl⟩,by rw[List.getD_eq_getElem?_getD,he];rfl⟩
 have hd:decide ((i:Int)<nb.length)=false:=by simpa using hi
 (have x0_:=@yN.eq_1;(repeat' first|refine gA ?_|refine gT ?_ ?_<;>intro hv<;>try cases hv;done|fail);all_goals clear x0_)
 all_goals refine aJ ?_<;>exact⟨_,⟨rfl,rfl⟩,by rw[List.getD_eq_getElem?_getD,List.getElem?_eq_none (by omega)];rfl⟩
def zFp{x:Option (Out×Heap)}{a b:Ans}{h h':Heap}(h1:x=some (.val (.t (.agg [.int .u8 a.v.k,.int .i64 a.v.n,.str a.v.s,.int .i64 a.e])),h))(h2:x=some (.val (.t (.agg [.int .u8 b.v.k,.int .i64 b.v.n,.str b.v.s,.int .i64 b.e])),h')):a=b:=by
 rw[h1] at h2;obtain⟨⟨k,n,s⟩,e⟩:=a;obtain⟨⟨k',n',s'⟩,e'⟩:=b;cases h2
 rfl
def xaY:=c5 zF zG zQ zE (c5 zD xE zB zU (c5 xG zU9 zT7 zO8 (c5 zDz zKw zDi @zGg (c3 @uU @zBs (c2 @vT @zDe)))))
def zQ5 (a b:Val) (x y sm:Bool) (k k':Tree) (nl2 cl2:Bool) (nb:List Bool) :
  ∃x':Ans,Om CC 175 [.t (.sl x y [[.int .u8 a.k,.int .i64 a.n,.str a.s],[.int .u8 b.k,.int .i64 b.n,.str b.s]]),.box 0 0,.box 1 0] [.box [.t k,.t (.sl nl2 cl2 (nb.map yN))],.box [.t (.bool sm)]] =
   some (.val (.t (.agg [.int .u8 x'.v.k,.int .i64 x'.v.n,.str x'.v.s,.int .i64 x'.e])),[.box [.t k,.t (.sl nl2 cl2 (nb.map yN))],.box [.t (.bool sm)]])∧AOK x'∧TB x' ∧
   Om CC 175 [.t (.sl x y [[.int .u8 a.k,.int .i64 a.n,.str a.s],[.int .u8 b.k,.int .i64 b.n,.str b.s]]),.box 0 0,.box 1 0] [.box [.t k',.t (.sl nl2 cl2 (nb.map yN))],.box [.t (.bool sm)]] =
   some (.val (.t (.agg [.int .u8 x'.v.k,.int .i64 x'.v.n,.str x'.v.s,.int .i64 x'.e])),[.box [.t k',.t (.sl nl2 cl2 (nb.map yN))],.box [.t (.bool sm)]]):=by
 refine zAa zQy rfl ?_
 (have F_:=xaY;show W CC 2 53 (zA 175) _ ⟨[(0,_),(1,_),(2,_)],[_,_]⟩ _)
 obtain⟨r0,h0,e0⟩:=zI4 0 k nl2 cl2 nb;obtain⟨r1,h1,e1⟩:=zI4 1 k nl2 cl2 nb;obtain⟨q0,g0,f0⟩:=zI4 0 k' nl2 cl2 nb;obtain⟨q1,g1,f1⟩:=zI4 1 k' nl2 cl2 nb;rw[← e0] at f0;rw[← e1] at f1;subst f0 f1;clear e0 e1;have h0:Om CC 177 [.t (.int .i64 0),.box 0 0] _=_:=h0;have h1:Om CC 177 [.t (.int .i64 1),.box 0 0] _=_:=h1;have g0:Om CC 177 [.t (.int .i64 0),.box 0 0] _=_:=g0;have g1:Om CC 177 [.t (.int .i64 1),.box 0 0] _=_:=g1;obtain⟨z,hz,_⟩:=zG0 [a,b] x y (by simp);simp only[List.map_cons,List.map_nil,Val.c] at hz;generalize nb.map yN=nc at *
 (repeat' first|refine gA ?_|refine gT ?_ ?_<;>intro hv<;>try cases hv;done|fail)
 all_goals refine aJ ?_<;>(first|refine⟨⟨uR _,0⟩,⟨rfl,rfl⟩,zC0 _,zKl _,?_⟩|refine⟨AZero,⟨rfl,rfl⟩,yR,zCh,?_⟩|refine⟨Fail 8,⟨rfl,rfl⟩,zEC _,zS5 _ (by decide),?_⟩)<;>refine zK zQy rfl ?_
 all_goals
  clear F_
  (have F_:=xaY;show W CC 2 53 (zA 175) _ ⟨[(0,_),(1,_),(2,_)],[_,_]⟩ _)
  (repeat' first|refine gA ?_|refine gT ?_ ?_<;>intro hv<;>try cases hv;done|fail)
  all_goals refine aK ?_ ?_<;>(rfl)
def EqO(sm nl2 cl2:Bool)(nb:List Bool)(l:List Val)(a:Ans):Prop:=Om CC 175 [.t (.sl l.isEmpty l.isEmpty (l.map Val.c)),.box 0 0,.box 1 0] [.box [.t (.sl true true []),.t (.sl nl2 cl2 (nb.map yN))],.box [.t (.bool sm)]] =
   some (.val (.t (.agg [.int .u8 a.v.k,.int .i64 a.v.n,.str a.v.s,.int .i64 a.e])),[.box [.t (.sl true true []),.t (.sl nl2 cl2 (nb.map yN))],.box [.t (.bool sm)]])
def zLQ(nl cl nl2 cl2:Bool)(kl:List Ans)(nb:List Bool)(hk:∀a ∈ kl,AOK a)(sm:Bool):∃x:Ans,Om CC 115 [.t (.agg [.sl nl cl (kl.map Ans.c),.sl nl2 cl2 (nb.map yN)]),.t (.bool sm)] []=some (.val (.t (.agg [.int .u8 x.v.k,.int .i64 x.v.n,.str x.v.s,.int .i64 x.e])),[])∧(AOK x∧TB x)∧Lf 2 kl (EqO sm nl2 cl2 nb) x:=by
 refine zJ zZK rfl ?_
 (have F_:=c5 zF zG zQ zE (c5 zD zB zU kW (c5 xG kY jA zBH (c2 yDU zIB)));show W CC 0 8 (zA 115) _ ⟨[(0,_),(1,_)],[]⟩ _)
 obtain⟨t,ht,htp,hlf⟩:=zVW (fun a=>AOK a∧TB a) (fun a h he=>⟨h,h,.inl he⟩) 175 yFk (fun x=>zZ _ x (by decide)) (.sl nl cl (kl.map Ans.c)) (.sl nl2 cl2 (nb.map yN)) (.bool sm) nl cl nl2 cl2 kl (nb.map yN) 2 (by decide) hk (fun l x y hl hv=>by
  match l,hl,hv with
  |[a,b],_,hv =>
   obtain⟨r,hr,hrp,hrt,_⟩:=zQ5 a b x y sm (.sl nl cl (kl.map Ans.c)) (.sl true true []) nl2 cl2 nb;exact⟨r,hr,hrp,hrt⟩)
 have hlf2:Lf 2 kl (EqO sm nl2 cl2 nb) t:=by
  rcases hlf with h|⟨hz,ho⟩
  ·exact .inl h
  refine .inr ⟨hz,?_⟩;obtain⟨r,hr,_,_,hr2⟩:=zQ5 (getA kl 0).v (getA kl 1).v false false sm (.sl nl cl (kl.map Ans.c)) (.sl true true []) nl2 cl2 nb;have ho:Om CC 175 [.t (.sl false false [[.int .u8 (getA kl 0).v.k,.int .i64 (getA kl 0).v.n,.str (getA kl 0).v.s],[.int .u8 (getA kl 1).v.k,.int .i64 (getA kl 1).v.n,.str (getA kl 1).v.s]]),.box 0 0,.box 1 0] _=_:=ho;rw[zFp ho hr];exact hr2
 have ht:Om CC 131 [.t (.agg [.sl nl cl (kl.map Ans.c),.sl nl2 cl2 (nb.map yN)]),.t (.int .i64 2),.fn 175 [] [.box 0 0,.box 1 0]] _=_:=ht;clear hk hlf;have hlf2:=Hid.mk hlf2
 (repeat' first|refine gA ?_|refine gT ?_ ?_<;>intro hv<;>try cases hv;done|fail)
 all_goals refine aJ ?_<;>exact⟨t,⟨rfl,rfl⟩,htp,hlf2.h⟩
def LfO0(f:Nat)(l:List Val)(a:Ans):Prop:=Om CC f [.t (.sl l.isEmpty l.isEmpty (l.map Val.c))] []=some (.val (.t (.agg [.int .u8 a.v.k,.int .i64 a.v.n,.str a.v.s,.int .i64 a.e])),[])
def LfO1(f:Nat)(w:Tree)(l:List Val)(a:Ans):Prop:=Om CC f [.t (.sl l.isEmpty l.isEmpty (l.map Val.c)),.box 0 0] [.box [.t w]]=some (.val (.t (.agg [.int .u8 a.v.k,.int .i64 a.v.n,.str a.v.s,.int .i64 a.e])),[.box [.t w]])
def LfO2(f:Nat)(w w':Tree)(l:List Val)(a:Ans):Prop:=Om CC f [.t (.sl l.isEmpty l.isEmpty (l.map Val.c)),.box 0 0,.box 1 0] [.box [.t w],.box [.t w']]=some (.val (.t (.agg [.int .u8 a.v.k,.int .i64 a.v.n,.str a.v.s,.int .i64 a.e])),[.box [.t w],.box [.t w']])
def zNn(c:Int):∃x:Bool,Om CC 117 [.t (.int .i64 c)] []=some (.val (.t (.bool x)),[])∧(True):=by
 refine zJ zYt rfl ?_
 (have F_:=c2 zG yGj;show W CC 0 5 (zA 117) _ ⟨[(0,_)],[]⟩ _)
 (repeat' first|refine gA ?_|refine gT ?_ ?_<;>intro hv<;>try cases hv;done|fail)
 all_goals refine aJ ?_<;>exact⟨_,⟨rfl,rfl⟩,by trivial⟩
noncomputable def zXt(c:Int):Bool:=(zNn c).choose
def zWv(c:Int):Om CC 117 [.t (.int .i64 c)] []=some (.val (.t (.bool (zXt c))),[]):=(zNn c).choose_spec.1
def zNg(c:Int):∃x:Bool,Om CC 118 [.t (.int .i64 c)] []=some (.val (.t (.bool x)),[])∧(True):=by
 refine zJ yAZ rfl ?_
 (have F_:=c2 zG yF8;show W CC 0 5 (zA 118) _ ⟨[(0,_)],[]⟩ _)
 (repeat' first|refine gA ?_|refine gT ?_ ?_<;>intro hv<;>try cases hv;done|fail)
 all_goals refine aJ ?_<;>exact⟨_,⟨rfl,rfl⟩,by trivial⟩
noncomputable def zXk(c:Int):Bool:=(zNg c).choose
def zW7(c:Int):Om CC 118 [.t (.int .i64 c)] []=some (.val (.t (.bool (zXk c))),[]):=(zNg c).choose_spec.1
def zM8(c:Int):∃x:Bool,Om CC 119 [.t (.int .i64 c)] []=some (.val (.t (.bool x)),[])∧(True):=by
 refine zJ zXY rfl ?_
 (have F_:=c2 zG yDM;show W CC 0 5 (zA 119) _ ⟨[(0,_)],[]⟩ _)
 (repeat' first|refine gA ?_|refine gT ?_ ?_<;>intro hv<;>try cases hv;done|fail)
 all_goals refine aJ ?_<;>exact⟨_,⟨rfl,rfl⟩,by trivial⟩
noncomputable def zXw(c:Int):Bool:=(zM8 c).choose
def zWs(c:Int):Om CC 119 [.t (.int .i64 c)] []=some (.val (.t (.bool (zXw c))),[]):=(zM8 c).choose_spec.1
def zMC(c:Int):∃x:Bool,Om CC 120 [.t (.int .i64 c)] []=some (.val (.t (.bool x)),[])∧(True):=by
 refine zJ yA3 rfl ?_
 (have F_:=c2 zG yEC;show W CC 0 5 (zA 120) _ ⟨[(0,_)],[]⟩ _)
 (repeat' first|refine gA ?_|refine gT ?_ ?_<;>intro hv<;>try cases hv;done|fail)
 all_goals refine aJ ?_<;>exact⟨_,⟨rfl,rfl⟩,by trivial⟩
noncomputable def zXN(c:Int):Bool:=(zMC c).choose
def zVO(c:Int):Om CC 120 [.t (.int .i64 c)] []=some (.val (.t (.bool (zXN c))),[]):=(zMC c).choose_spec.1
def zW0 (g:Nat) (hg:yX Tryz.prog g=true) (hgp:∀x,CC.prim g x=none) (G:Int→Bool) (hG:∀c,Om CC g [.t (.int .i64 c)] []=some (.val (.t (.bool (G c))),[])) (a b:Val) (x y:Bool) :
  ∃x':Ans,Om CC 179 [.t (.sl x y [[.int .u8 a.k,.int .i64 a.n,.str a.s],[.int .u8 b.k,.int .i64 b.n,.str b.s]]),.box 0 0] [.box [.t (.fn g)]]=some (.val (.t (.agg [.int .u8 x'.v.k,.int .i64 x'.v.n,.str x'.v.s,.int .i64 x'.e])),[.box [.t (.fn g)]])∧AOK x'∧TB x':=by
 refine zAa zYs rfl ?_
 (have F_:=c5 zF zG zQ zE (c5 zD xE zB zU (c5 xG zNY yEQ zO8 (c5 zDz zKw zPj zDi (c5 @zGg @uU @zBs @vT @zDe))));show W CC 1 35 (zA 179) _ ⟨[(0,_),(1,_)],[_]⟩ _)
 obtain⟨z,hz,_⟩:=zG0 [a,b] x y (by simp);obtain⟨f1,hf1,_⟩:=zHh 1 2 [a,b] x y (by simp);obtain⟨f2,hf2,_⟩:=zHh 3 3 [a,b] x y (by simp);simp only[List.map_cons,List.map_nil,Val.c] at hz hf1 hf2
 (repeat' first|refine gA ?_|refine gT ?_ ?_<;>intro hv<;>try cases hv;done|fail)
 all_goals refine aJ ?_<;>(first|exact⟨⟨uR _,0⟩,⟨rfl,rfl⟩,zC0 _,zKl _⟩|exact⟨AZero,⟨rfl,rfl⟩,yR,zCh⟩|exact⟨Fail 8,⟨rfl,rfl⟩,zEC _,zS5 _ (by decide)⟩)
def zF9 (g:Nat) (hg:yX Tryz.prog g=true) (hgp:∀x,CC.prim g x=none) (G:Int→Bool) (hG:∀c,Om CC g [.t (.int .i64 c)] []=some (.val (.t (.bool (G c))),[])) (nl cl nl2 cl2:Bool) (kl:List Ans) (nb:List Bool) (hk:∀a ∈ kl,AOK a) :
  ∃x:Ans,Om CC 116 [.t (.agg [.sl nl cl (kl.map Ans.c),.sl nl2 cl2 (nb.map yN)]),.t (.fn g)] []=some (.val (.t (.agg [.int .u8 x.v.k,.int .i64 x.v.n,.str x.v.s,.int .i64 x.e])),[])∧(AOK x∧TB x)∧Lf 2 kl (LfO1 179 (.fn g)) x:=by
 refine zJ zZV rfl ?_
 (have F_:=c5 zF zG zQ zE (c5 zD zB zU kW (c5 xG kY jA zNY (c3 zBH yDs zIB)));show W CC 0 8 (zA 116) _ ⟨[(0,_),(1,_)],[]⟩ _)
 obtain⟨t,ht,htp⟩:=zOa (fun a=>AOK a∧TB a) (fun a h he=>⟨h,h,.inl he⟩) 179 yEs (fun x=>zZ _ x (by decide)) (.fn g) nl cl nl2 cl2 kl (nb.map yN) 2 (by decide) hk (fun l x y hl hv=>by
  match l,hl,hv with
  |[a,b],_,hv=>exact zW0 g hg hgp G hG a b x y)
 have ht:Om CC 131 [.t (.agg [.sl nl cl (kl.map Ans.c),.sl nl2 cl2 (nb.map yN)]),.t (.int .i64 2),.fn 179 [] [.box 0 0]] _=_:=ht;clear hk hG;have htp:=Hid.mk htp
 (repeat' first|refine gA ?_|refine gT ?_ ?_<;>intro hv<;>try cases hv;done|fail)
 all_goals refine aJ ?_<;>exact⟨t,⟨rfl,rfl⟩,htp.h⟩
def zTO (g:Nat) (hg:yX Tryz.prog g=true) (hgp:∀x,CC.prim g x=none) (kind:Int) (l:List Val) (hl:l.length<9223372036854775808) (x y:Bool) (r:Ans) (hr:Om CC g [.t (.sl x y (l.map Val.c))] []=some (.val (.t (.agg [.int .u8 r.v.k,.int .i64 r.v.n,.str r.v.s,.int .i64 r.e])),[])) (hrp:AOK r) :
  ∃x':Ans,Om CC 181 [.t (.sl x y (l.map Val.c)),.box 0 0,.box 1 0] [.box [.t (.int .u8 kind)],.box [.t (.fn g)]]=some (.val (.t (.agg [.int .u8 x'.v.k,.int .i64 x'.v.n,.str x'.v.s,.int .i64 x'.e])),[.box [.t (.int .u8 kind)],.box [.t (.fn g)]])∧AOK x':=by
 refine zAa zZv rfl ?_
 (have F_:=c5 zF zQ zE zD (c5 xE zB zU xG (c5 zBH yEk zKw zPj (c2 zDi @zBs)));show W CC 2 19 (zA 181) _ ⟨[(0,_),(1,_),(2,_)],[_,_]⟩ _)
 obtain⟨z,hz,_⟩:=zG0 l x y hl;obtain⟨f1,hf1,_⟩:=zHh kind kind l x y hl
 (repeat' first|refine gA ?_|refine gT ?_ ?_<;>intro hv<;>try cases hv;done|fail)
 all_goals refine aJ ?_<;>(first|exact⟨r,⟨rfl,rfl⟩,hrp⟩|exact⟨AZero,⟨rfl,rfl⟩,yR⟩|exact⟨Fail 8,⟨rfl,rfl⟩,zEC _⟩)
def zFs (g:Nat) (hg:yX Tryz.prog g=true) (hgp:∀x,CC.prim g x=none) (kind:Int) (n:Nat) (hn:n<4294967295) (hG:∀(l:List Val) (x y:Bool),l.length=n→(∀v ∈ l,VOK v)→∃r:Ans,Om CC g [.t (.sl x y (l.map Val.c))] []=some (.val (.t (.agg [.int .u8 r.v.k,.int .i64 r.v.n,.str r.v.s,.int .i64 r.e])),[])∧AOK r) (nl cl nl2 cl2:Bool) (kl:List Ans) (nb:List Bool) (hk:∀a ∈ kl,AOK a) :
  ∃x:Ans,Om CC 121 [.t (.agg [.sl nl cl (kl.map Ans.c),.sl nl2 cl2 (nb.map yN)]),.t (.int .i64 (n:Int)),.t (.int .u8 kind),.t (.fn g)] []=some (.val (.t (.agg [.int .u8 x.v.k,.int .i64 x.v.n,.str x.v.s,.int .i64 x.e])),[])∧AOK x∧Lf n kl (LfO2 181 (.int .u8 kind) (.fn g)) x:=by
 refine zJ zYO rfl ?_
 (have F_:=c5 zF zG zQ zE (c5 zD zB zU kW (c5 xG kY jA zBH (c2 yBk zIB)));show W CC 0 13 (zA 121) _ ⟨[(0,_),(1,_),(2,_),(3,_)],[]⟩ _)
 obtain⟨t,ht,htp⟩:=zXg 181 yEH (fun x=>zZ _ x (by decide)) (.int .u8 kind) (.fn g) nl cl nl2 cl2 kl (nb.map yN) n hn hk (fun l x y hl hv=>by
  obtain⟨r,hr,hrp⟩:=hG l x y hl hv;exact zTO g hg hgp kind l (by omega) x y r hr hrp)
 clear hk hG;have htp:=Hid.mk htp
 (repeat' first|refine gA ?_|refine gT ?_ ?_<;>intro hv<;>try cases hv;done|fail)
 all_goals refine aJ ?_<;>exact⟨t,⟨rfl,rfl⟩,htp.h⟩
def zWT (g:Nat) (hg:yX Tryz.prog g=true) (hgp:∀x,CC.prim g x=none) (a b:Val) (x y:Bool) (r:Val×Int) (hr:Om CC g [.t (.agg [.int .u8 a.k,.int .i64 a.n,.str a.s]),.t (.agg [.int .u8 b.k,.int .i64 b.n,.str b.s])] []=some (.val (.tup [.t (.agg [.int .u8 r.1.k,.int .i64 r.1.n,.str r.1.s]),.t (.int .i64 r.2)]),[])) (hrp:VOK r.1) :
  ∃x':Ans,Om CC 184 [.t (.sl x y [[.int .u8 a.k,.int .i64 a.n,.str a.s],[.int .u8 b.k,.int .i64 b.n,.str b.s]]),.box 0 0] [.box [.t (.fn g)]]=some (.val (.t (.agg [.int .u8 x'.v.k,.int .i64 x'.v.n,.str x'.v.s,.int .i64 x'.e])),[.box [.t (.fn g)]])∧AOK x':=by
 refine zAa yAW rfl ?_
 (have F_:=c5 zF zE zD xE (c5 zB zU xG zOz (c5 yFH zGt @zFj @vT @zDe));show W CC 1 15 (zA 184) _ ⟨[(0,_),(1,_)],[_]⟩ _)
 (repeat' first|refine gA ?_|refine gT ?_ ?_<;>intro hv<;>try cases hv;done|fail)
 all_goals refine aJ ?_<;>exact⟨Told r.1 r.2,⟨rfl,rfl⟩,zGs _ _ hrp⟩
def zI1 (g:Nat) (hg:yX Tryz.prog g=true) (hgp:∀x,CC.prim g x=none) (hG:∀a b:Val,VOK a→VOK b→∃r:Val×Int,Om CC g [.t (.agg [.int .u8 a.k,.int .i64 a.n,.str a.s]),.t (.agg [.int .u8 b.k,.int .i64 b.n,.str b.s])] []=some (.val (.tup [.t (.agg [.int .u8 r.1.k,.int .i64 r.1.n,.str r.1.s]),.t (.int .i64 r.2)]),[])∧VOK r.1) (nl cl nl2 cl2:Bool) (kl:List Ans) (nb:List Bool) (hk:∀a ∈ kl,AOK a) :
  ∃x:Ans,Om CC 126 [.t (.agg [.sl nl cl (kl.map Ans.c),.sl nl2 cl2 (nb.map yN)]),.t (.fn g)] []=some (.val (.t (.agg [.int .u8 x.v.k,.int .i64 x.v.n,.str x.v.s,.int .i64 x.e])),[])∧AOK x∧Lf 2 kl (LfO1 184 (.fn g)) x:=by
 refine zJ zX5 rfl ?_
 (have F_:=c5 zF zG zQ zE (c5 zD zB zU kW (c5 xG kY jA zBH (c3 zOz yDL zIB)));show W CC 0 8 (zA 126) _ ⟨[(0,_),(1,_)],[]⟩ _)
 obtain⟨t,ht,htp⟩:=zOa AOK (fun a h _=>h) 184 yDc (fun x=>zZ _ x (by decide)) (.fn g) nl cl nl2 cl2 kl (nb.map yN) 2 (by decide) hk (fun l x y hl hv=>by
  match l,hl,hv with
  |[a,b],_,hv =>
   obtain⟨r,hr,hrp⟩:=hG a b (hv a (by simp)) (hv b (by simp));exact zWT g hg hgp a b x y r hr hrp)
 have ht:Om CC 131 [.t (.agg [.sl nl cl (kl.map Ans.c),.sl nl2 cl2 (nb.map yN)]),.t (.int .i64 2),.fn 184 [] [.box 0 0]] _=_:=ht;clear hk hG;have htp:=Hid.mk htp
 (repeat' first|refine gA ?_|refine gT ?_ ?_<;>intro hv<;>try cases hv;done|fail)
 all_goals refine aJ ?_<;>exact⟨t,⟨rfl,rfl⟩,htp.h⟩
end Go.Ab
