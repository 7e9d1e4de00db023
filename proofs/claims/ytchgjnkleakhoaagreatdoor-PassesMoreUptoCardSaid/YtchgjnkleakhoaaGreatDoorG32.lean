/- Lemmas. -/
import Derived.Test.YtchgjnkleakhoaaGreatDoorG31
import Derived.Test.YtchgjnkleakhoaaGreatDoorG30
set_option maxRecDepth 1000000
set_option maxHeartbeats 40000000
set_option linter.all false
namespace Go.Ab
open Go.Proofs
attribute [local irreducible] W RW RR
def zBx(L:List Tok):List Node×Int :=
 if (zH L 0).2.2=0 then (if (zH L 0).2.1<L.length then ([],4) else ((zH L 0).1,0)) else ([],(zH L 0).2.2)
def xa6:=c5 zF zG zE zD (c5 zI zB zU zX (c5 zS zKt zEh zCy zEl))
def zXj {vp:List Nat→Val×Int} (hvp:VPH vp) (s:List Nat) (hb:∀b ∈ s,b<256) (hs:s.length≤65536) (hLb:∀L:List Tok,lexB vp s=some (L.map Tok.b)→L.length<4000000000) :
  ∃L e0,zNR vp s L e0∧∃p:Int×Int,Om CC 89 [.t (.str s)] []=some (.val (.tup [.t (wG (if e0=0 then (zBx L).1 else [])),.t (.agg [.int .i64 p.1,.int .i64 p.2]),.t (.int .i64 (if e0=0 then (zBx L).2 else e0))]),[])∧True:=by
 obtain⟨o,h',hlex,rfl,L,line,col,e0,rfl,hL⟩:=zSC hvp s hb hs;refine⟨L,e0,hL,?_⟩;simp only[zOU] at hlex;rcases hL with ⟨rfl,hx⟩|⟨he,rfl,hx⟩
 ·have hLl:=hLb L hx;rw[if_pos rfl,if_pos rfl];have h1:=zEq L.isEmpty L.isEmpty L hLl 0 (Nat.zero_le _);obtain⟨bp,h2,-⟩:=zM1 L.isEmpty L.isEmpty L hLl;have hlen:(L.map Tok.c).length=L.length:=List.length_map ..;unfold zBx;have hle:(zH L 0).2.1<L.length→∃t,L[(zH L 0).2.1]?=some t:=fun h=>⟨_,List.getElem?_eq_getElem h⟩
  simp only[zC5] at h1;have z0:((0:Nat):Int)=0:=rfl;rw[z0] at h1;clear z0;generalize L.isEmpty=ne at *;generalize zH L 0=r at *;obtain⟨T,j,e⟩:=r;dsimp only at *;refine zJ zSB rfl ?_
  by_cases hj:j<L.length
  ·obtain⟨t,ht⟩:=hle hj;have hT:=vE ht;have hd:decide ((j:Int)<((L.map Tok.c).length:Int))=true:=by(rw[decide_eq_true_eq,hlen];omega)
   obtain⟨tk,ts,⟨vk,vn,vs⟩,tl,tc⟩:=t;dsimp only at *
   by_cases he:e=0
   ·subst he;rw[if_pos rfl,if_pos hj];clear hle hlen ht hx;generalize L.map Tok.c=l at *;simp only[wG] at h1 ⊢;generalize T.map Node.c=A at *;generalize T.isEmpty=te at *
    (have F_:=xa6;show W CC 0 54 (zA 89) _ ⟨[(0,_)],[]⟩ _)
    (repeat' first|refine gA ?_|refine gT ?_ ?_<;>intro hv<;>try cases hv;done|fail)
    all_goals refine aJ ?_<;>exact⟨⟨_,_⟩,⟨rfl,rfl⟩,trivial⟩
   rw[if_neg he];have he':(e==0)=false:=by simpa using he
   clear hle hlen ht hx;generalize L.map Tok.c=l at *;simp only[wG] at h1 ⊢;generalize T.map Node.c=A at *;generalize T.isEmpty=te at *
   (have F_:=xa6;show W CC 0 54 (zA 89) _ ⟨[(0,_)],[]⟩ _)
   (refine gA ?_)
   all_goals refine aJ ?_<;>exact⟨⟨_,_⟩,⟨rfl,rfl⟩,trivial⟩
  have hd:decide ((j:Int)<((L.map Tok.c).length:Int))=false:=by(rw[decide_eq_false_iff_not,hlen];omega)
  by_cases he:e=0
  ·subst he;rw[if_pos rfl,if_neg hj];clear hle hlen hx;generalize L.map Tok.c=l at *;simp only[wG] at h1 ⊢;generalize T.map Node.c=A at *;generalize T.isEmpty=te at *
   (have F_:=xa6;show W CC 0 54 (zA 89) _ ⟨[(0,_)],[]⟩ _)
   (refine gA ?_)
   all_goals refine aJ ?_<;>exact⟨⟨_,_⟩,⟨rfl,rfl⟩,trivial⟩
  rw[if_neg he];have he':(e==0)=false:=by simpa using he
  clear hle hlen hx;generalize L.map Tok.c=l at *;simp only[wG] at h1 ⊢;generalize T.map Node.c=A at *;generalize T.isEmpty=te at *
  (have F_:=xa6;show W CC 0 54 (zA 89) _ ⟨[(0,_)],[]⟩ _)
  (refine gA ?_)
  all_goals refine aJ ?_<;>exact⟨⟨_,_⟩,⟨rfl,rfl⟩,trivial⟩
 rw[if_neg he,if_neg he];have he':(e0 != 0)=true:=by simpa using he
 refine zJ zSB rfl ?_;simp only[wG,List.map_nil,List.isEmpty_nil] at hlex ⊢
 (have F_:=xa6;show W CC 0 54 (zA 89) _ ⟨[(0,_)],[]⟩ _)
 (refine gA ?_)
 all_goals refine aJ ?_<;>exact⟨⟨_,_⟩,⟨rfl,rfl⟩,trivial⟩
def zSy(T:List Node):∀(r:List Node) (i:Nat) (X:List (List Nat)) (last:List Nat),last.length≤65536→(wgo T r i X last).length≤65536
 |[],_,_,_,h=>h
 |n::r,i,X,_,_=>by
  rw[wgo];split
  ·exact Nat.zero_le _
  exact zSy T r _ _ _ (by omega)
def zGY(T:List Node):(vH T).length≤65536:=zSy T T 0 _ [] (Nat.zero_le _)
def zE6(T:List Node)(r:List Nat×Int):Prop :=
 (60<T.length∧r=([],4))∨∃L e0,zNR vpF (vH T) L e0∧T.length≤60∧r=(if (if e0=0 then (zBx L).2 else e0)=0∧eqBy zAj T (if e0=0 then (zBx L).1 else [])=true then (vH T,0) else ([],4))
def xa7:=c5 zF zG zQ zE (c5 zD zI zB zO (c5 zL zN zU zNF (c3 zNP zNU zK1)))
def zHZ (a b:Bool) (T:List Node) (hP:∀m ∈ T,PNode m) (hb:T.length≤60→∀x ∈ vH T,x<256) :
  ∃r:List Nat×Int,Om CC 58 [.t (.sl a b (T.map Node.c))] []=some (.val (.tup [.t (.str r.1),.t (.int .i64 r.2)]),[])∧zE6 T r:=by
 have hml:(T.map Node.c).length=T.length:=List.length_map ..;refine zJ yCL rfl ?_
 by_cases h6:60<T.length
 ·have hd:decide (((T.map Node.c).length:Int) > 60)=true:=by rw[hml];simp;omega
  generalize T.map Node.c=l at *;clear hP hb hml
  (have F_:=xa7;show W CC 0 28 (zA 58) _ ⟨[(0,_)],[]⟩ _)
  (refine gA ?_)
  all_goals refine aJ ?_<;>exact⟨(_,_),⟨rfl,rfl⟩,.inl ⟨h6,rfl⟩⟩
 have hd:decide (((T.map Node.c).length:Int) > 60)=false:=by rw[hml];simp;omega
 have hw:=zRX a b T (by omega) hP;obtain⟨L,e0,hL,p,hr,-⟩:=zXj zRu (vH T) (hb (by omega)) (zGY T) (fun L h=>by have:=(zMk zPq h).2;have:=zGY T;omega);have hsm:=zJS a b (if e0=0 then (zBx L).1 else []).isEmpty (if e0=0 then (zBx L).1 else []).isEmpty T (if e0=0 then (zBx L).1 else []) (by omega) (fun x hx=>by have:=(hP x hx).kids;omega);have hT:zE6 T (if (if e0=0 then (zBx L).2 else e0)=0∧eqBy zAj T (if e0=0 then (zBx L).1 else [])=true then (vH T,0) else ([],4)):=.inr ⟨L,e0,hL,by omega,rfl⟩;simp only[wG] at hr;generalize zE6 T=TP at hT ⊢;generalize (if e0=0 then (zBx L).1 else [])=U at *;generalize (if e0=0 then (zBx L).2 else e0)=e at *;generalize hS:eqBy zAj T U=S at *;generalize U.map Node.c=u at *;generalize U.isEmpty=ue at *;generalize vH T=s at *;generalize T.map Node.c=l at *;have hT:=Hid.mk hT;clear hP hb hml hL hS h6
 by_cases he:e=0
 ·subst he;cases S with
  |true =>
   (have F_:=xa7;show W CC 0 28 (zA 58) _ ⟨[(0,_)],[]⟩ _)
   (refine gA ?_)
   all_goals refine aJ ?_<;>exact⟨(_,_),⟨rfl,rfl⟩,by simpa using hT.h⟩
  |false =>
   (have F_:=xa7;show W CC 0 28 (zA 58) _ ⟨[(0,_)],[]⟩ _)
   (refine gA ?_)
   all_goals refine aJ ?_<;>exact⟨(_,_),⟨rfl,rfl⟩,by simpa using hT.h⟩
 have he':(e != 0)=true:=by simpa using he
 (have F_:=xa7;show W CC 0 28 (zA 58) _ ⟨[(0,_)],[]⟩ _)
 (refine gA ?_)
 all_goals refine aJ ?_<;>exact⟨(_,_),⟨rfl,rfl⟩,by simpa [he] using hT.h⟩
def zWF (a b:Bool) (T:List Node) (hP:∀m ∈ T,PNode m) (hb:T.length≤60→∀x ∈ vH T,x<256) :
  ∃r:List Nat×Int,Om CC 40 [.t (.sl a b (T.map Node.c))] []=some (.val (.t (.bool (r.2==0))),[])∧zE6 T r:=by
 obtain⟨r,hr,hT⟩:=zHZ a b T hP hb;refine⟨r,?_,hT⟩;refine zK yD5 rfl ?_;generalize T.map Node.c=l at *;obtain⟨r1,r2⟩:=r;dsimp only at hr ⊢;clear hT hP hb
 (have F_:=c5 zF zG zE zD (c5 zI zB zO zL (c3 zN zU (c2 yHV zXu)));show W CC 0 12 (zA 40) _ ⟨[(0,_)],[]⟩ _)
 (refine gA ?_)
 (refine aK ?_ ?_)
 ·rfl
 rfl
structure PTest (x:Test):Prop where
 op:0≤x.op∧x.op<256
 a:x.a.l.length≤1000000000∧(∀m ∈ x.a.l,PNode m)∧(x.a.l.length≤60→Byt (vH x.a.l))
 b:x.b.l.length≤1000000000∧(∀m ∈ x.b.l,PNode m)∧(x.b.l.length≤60→Byt (vH x.b.l))
 kids:x.kids.l.length≤1000000000
theorem PTest.len{x:Test}(h:PTest x):TLen x:=by
 obtain⟨-,⟨a1,a2,-⟩,⟨b1,b2,-⟩,k⟩:=h;exact⟨by omega,⟨by omega,fun n hn=>by have:=(a2 n hn).kids;omega⟩,by omega,fun n hn=>by have:=(b2 n hn).kids;omega⟩
theorem TOK.len{x:Test}(h:TOK x):TLen x:=by
 obtain⟨⟨-,a1,a2,-⟩,⟨-,b1,b2,-⟩,k⟩:=h;exact⟨by omega,⟨by omega,fun n hn=>by have:=a2 n hn;omega⟩,by omega,fun n hn=>by have:=b2 n hn;omega⟩
theorem zE6.le{T:List Node}{r:List Nat×Int}(h:zE6 T r)(hb:T.length≤60→Byt (vH T)):r.1.length≤65536∧Byt r.1:=by
 rcases h with ⟨-,rfl⟩|⟨L,e0,-,h6,rfl⟩
 ·exact⟨Nat.zero_le _,Byt.nil⟩
 by_cases hc:(if e0=0 then (zBx L).2 else e0)=0∧eqBy zAj T (if e0=0 then (zBx L).1 else [])=true
 ·rw[if_pos hc];exact⟨zGY T,hb h6⟩
 rw[if_neg hc];exact⟨Nat.zero_le _,Byt.nil⟩
def zKx(x:Test)(a r:List Nat):Prop:=∃(T:List Test) (e:Int),(e=0→ReadOK vpF a T)∧(e≠0→T=[]∧∀T,¬ ReadOK vpF a T)∧r=if e=0∧eqBy zAr T [x]=true then a else 61::32::a
def xa8:=c5 zF zG zQ zE (c5 zD zI yM zB (c5 zO zL yL zN (c3 zU zXL (c2 zNN zNH))))
def zTM (x:Test) (a:List Nat) (ha:a.length≤65536) (hb:Byt a) :
  ∃r:List Nat,Om CC 60 [.t (.agg x.c),.t (.str a)] []=some (.val (.t (.str r)),[])∧((r=a∨r=61::32::a)∧zKx x a r):=by
 obtain⟨T,p,e,hr,hT,hN⟩:=zNv zRu zPq a hb ha;have hs:e=0→Om CC 39 [.t (zAW T),.t (.sl false false [x.c])] []=some (.val (.t (.bool (eqBy zAr T [x]))),[]):=fun h=>zM7 T.isEmpty T.isEmpty false false T [x] (by have:=(hT h).len;omega) (fun y hy=>((hT h).tok y hy).len)
 have hsa:binop Tryz.prog .add 9 (.t (.str [61,32])) (.t (.str a))=some (.t (.str (61::32::a))):=yF (by simp;omega);have hP:zKx x a (if e=0∧eqBy zAr T [x]=true then a else 61::32::a):=⟨T,e,hT,hN,rfl⟩
 refine zJ yBH rfl ?_;generalize zKx x a=AP at hP ⊢;obtain⟨op,⟨anl,acl,al⟩,⟨bnl,bcl,bl⟩,lo,hi1,⟨nl,cl,kids⟩,line,col⟩:=x;simp only[zAW,Test.c,Sl.t] at hr hs ⊢;generalize eqBy zAr T _=S at hs hP;generalize T.map Test.c=l at *;generalize T.isEmpty=te at *;clear hT hN ha hb;have hP:=Hid.mk hP
 by_cases he:e=0
 ·have hs:=hs he;subst he;cases S
  all_goals
   (have F_:=xa8;show W CC 0 25 (zA 60) _ ⟨[(0,_),(1,_)],[]⟩ _)
   (repeat' first|refine gA ?_|refine gT ?_ ?_<;>intro hv<;>try cases hv;done|fail)
   ((refine aJ ?_))
   first|exact⟨_,⟨rfl,rfl⟩,.inl rfl,by simpa using hP.h⟩|exact⟨_,⟨rfl,rfl⟩,.inr rfl,by simpa using hP.h⟩
 have he':(e==0)=false:=by simpa using he
 clear hs
 (have F_:=xa8;show W CC 0 25 (zA 60) _ ⟨[(0,_),(1,_)],[]⟩ _)
 (repeat' first|refine gA ?_|refine gT ?_ ?_<;>intro hv<;>try cases hv;done|fail)
 ((refine aJ ?_))
 exact⟨_,⟨rfl,rfl⟩,.inr rfl,by simpa [he] using hP.h⟩
def zUx(x:Test):∃r:List Nat×List Nat,Om CC 61 [.t (.agg x.c)] []=some (.val (.tup [.t (.str r.1),.t (.str r.2)]),[])∧(r.1=(if x.low then [40] else [91])∧r.2=(if x.high then [41] else [93])):=by
 refine zJ yFw rfl ?_;obtain⟨op,⟨anl,acl,al⟩,⟨bnl,bcl,bl⟩,lo,hi1,⟨nl,cl,kids⟩,line,col⟩:=x;simp only[Test.c,Sl.t];cases lo<;>cases hi1
 all_goals
  (have F_:=c5 zF zG zQ zE (c5 zD zI zB zO (c3 zL yL (c2 zN yGr)));show W CC 0 12 (zA 61) _ ⟨[(0,_)],[]⟩ _)
  (repeat' first|refine gA ?_|refine gT ?_ ?_<;>intro hv<;>try cases hv;done|fail)
  ((refine aJ ?_))
  exact⟨(_,_),⟨rfl,rfl⟩,rfl,rfl⟩
end Go.Ab
