/- Lemmas. -/
import Derived.Test.YtdbfacakphncfaaGreatDoorG31
import Derived.Test.YtdbfacakphncfaaGreatDoorG30
set_option maxRecDepth 1000000
set_option maxHeartbeats 40000000
set_option linter.all false
namespace Go.Ab
open Go.Proofs
attribute [local irreducible] W RW RR
def zAi(L:List Tok):List Node×Int :=
 if (zH L 0).2.2=0 then (if (zH L 0).2.1<L.length then ([],4) else ((zH L 0).1,0)) else ([],(zH L 0).2.2)
def xa8:=c5 zF zG zE zC (c5 zB zK zR zV (c5 zU zLs zEg zB8 zD8))
def zWf {vp:List Nat→Val×Int} (hq:VPH vp) (s:List Nat) (hb:∀b ∈ s,b<256) (hs:s.length≤65536) (hu:∀L:List Tok,lexB vp s=some (L.map Tok.b)→L.length<4000000000) :
  ∃L e0,zOr vp s L e0∧∃p:Int×Int,Om CC 90 [.t (.str s)] []=some (.val (.tup [.t (wJ (if e0=0 then (zAi L).1 else [])),.t (.agg [.int .i64 p.1,.int .i64 p.2]),.t (.int .i64 (if e0=0 then (zAi L).2 else e0))]),[])∧True:=by
 obtain⟨o,h',hh,rfl,L,line,col,e0,rfl,hL⟩:=zTj hq s hb hs;refine⟨L,e0,hL,?_⟩;simp only[zOD] at hh;rcases hL with ⟨rfl,hx⟩|⟨he,rfl,hx⟩
 ·have ho:=hu L hx;rw[if_pos rfl,if_pos rfl];have h1:=zEr L.isEmpty L.isEmpty L ho 0 (Nat.zero_le _);obtain⟨bp,h2,-⟩:=zNI L.isEmpty L.isEmpty L ho;have hf:(L.map Tok.c).length=L.length:=List.length_map ..;unfold zAi;have hk:(zH L 0).2.1<L.length→∃t,L[(zH L 0).2.1]?=some t:=fun h=>⟨_,List.getElem?_eq_getElem h⟩
  simp only[zCQ] at h1;have z0:((0:Nat):Int)=0:=rfl;rw[z0] at h1;clear z0;generalize L.isEmpty=ne at *;generalize zH L 0=r at *;obtain⟨T,j,e⟩:=r;dsimp only at *;refine zJ zS2 rfl ?_
  by_cases hj:j<L.length
  ·obtain⟨t,ht⟩:=hk hj;have hT:=vF ht;have hd:decide ((j:Int)<((L.map Tok.c).length:Int))=true:=by(rw[decide_eq_true_eq,hf];omega)
   obtain⟨tk,ts,⟨vk,vn,vs⟩,tl,tc⟩:=t;dsimp only at *
   by_cases he:e=0
   ·subst he;rw[if_pos rfl,if_pos hj];clear hk hf ht hx;generalize L.map Tok.c=l at *;simp only[wJ] at h1 ⊢;generalize T.map Node.c=A at *;generalize T.isEmpty=te at *
    (have F_:=xa8;show W CC 0 54 (zA 90) _ ⟨[(0,_)],[]⟩ _)
    (repeat' first|refine gA ?_|refine gT ?_ ?_<;>intro hv<;>try cases hv;done|fail)
    all_goals refine aJ ?_<;>exact⟨⟨_,_⟩,⟨rfl,rfl⟩,trivial⟩
   rw[if_neg he];have hl:(e==0)=false:=by simpa using he
   clear hk hf ht hx;generalize L.map Tok.c=l at *;simp only[wJ] at h1 ⊢;generalize T.map Node.c=A at *;generalize T.isEmpty=te at *
   (have F_:=xa8;show W CC 0 54 (zA 90) _ ⟨[(0,_)],[]⟩ _)
   (refine gA ?_)
   all_goals refine aJ ?_<;>exact⟨⟨_,_⟩,⟨rfl,rfl⟩,trivial⟩
  have hd:decide ((j:Int)<((L.map Tok.c).length:Int))=false:=by(rw[decide_eq_false_iff_not,hf];omega)
  by_cases he:e=0
  ·subst he;rw[if_pos rfl,if_neg hj];clear hk hf hx;generalize L.map Tok.c=l at *;simp only[wJ] at h1 ⊢;generalize T.map Node.c=A at *;generalize T.isEmpty=te at *
   (have F_:=xa8;show W CC 0 54 (zA 90) _ ⟨[(0,_)],[]⟩ _)
   (refine gA ?_)
   all_goals refine aJ ?_<;>exact⟨⟨_,_⟩,⟨rfl,rfl⟩,trivial⟩
  rw[if_neg he];have hl:(e==0)=false:=by simpa using he
  clear hk hf hx;generalize L.map Tok.c=l at *;simp only[wJ] at h1 ⊢;generalize T.map Node.c=A at *;generalize T.isEmpty=te at *
  (have F_:=xa8;show W CC 0 54 (zA 90) _ ⟨[(0,_)],[]⟩ _)
  (refine gA ?_)
  all_goals refine aJ ?_<;>exact⟨⟨_,_⟩,⟨rfl,rfl⟩,trivial⟩
 rw[if_neg he,if_neg he];have hl:(e0 != 0)=true:=by simpa using he
 refine zJ zS2 rfl ?_;simp only[wJ,List.map_nil,List.isEmpty_nil] at hh ⊢
 (have F_:=xa8;show W CC 0 54 (zA 90) _ ⟨[(0,_)],[]⟩ _)
 (refine gA ?_)
 all_goals refine aJ ?_<;>exact⟨⟨_,_⟩,⟨rfl,rfl⟩,trivial⟩
def zVJ(T:List Node):∀(r:List Node) (i:Nat) (X:List (List Nat)) (last:List Nat),last.length≤65536→(wgo T r i X last).length≤65536
 |[],_,_,_,h=>h
 |n::r,i,X,_,_=>by
  rw[wgo];split
  ·exact Nat.zero_le _
  exact zVJ T r _ _ _ (by omega)
def zG9(T:List Node):(wH T).length≤65536:=zVJ T T 0 _ [] (Nat.zero_le _)
def zEe(T:List Node)(r:List Nat×Int):Prop :=
 (60<T.length∧r=([],4))∨∃L e0,zOr vpF (wH T) L e0∧T.length≤60∧r=(if (if e0=0 then (zAi L).2 else e0)=0∧eqBy qG T (if e0=0 then (zAi L).1 else [])=true then (wH T,0) else ([],4))
def xa9:=c5 zF zG zP zE (c5 zC zB zO zK (c5 zR zM zI zOo (c3 zOi zOj zLt)))
def zIz (a b:Bool) (T:List Node) (hP:∀m ∈ T,PNode m) (hb:T.length≤60→∀x ∈ wH T,x<256) :
  ∃r:List Nat×Int,Om CC 45 [.t (.sl a b (T.map Node.c))] []=some (.val (.tup [.t (.str r.1),.t (.int .i64 r.2)]),[])∧zEe T r:=by
 have hm:(T.map Node.c).length=T.length:=List.length_map ..;refine zJ yDT rfl ?_
 by_cases h6:60<T.length
 ·have hd:decide (((T.map Node.c).length:Int) > 60)=true:=by rw[hm];simp;omega
  generalize T.map Node.c=l at *;clear hP hb hm
  (have F_:=xa9;show W CC 0 28 (zA 45) _ ⟨[(0,_)],[]⟩ _)
  (refine gA ?_)
  all_goals refine aJ ?_<;>exact⟨(_,_),⟨rfl,rfl⟩,.inl ⟨h6,rfl⟩⟩
 have hd:decide (((T.map Node.c).length:Int) > 60)=false:=by rw[hm];simp;omega
 have hw:=zR3 a b T (by omega) hP;obtain⟨L,e0,hL,p,hr,-⟩:=zWf zFN (wH T) (hb (by omega)) (zG9 T) (fun L h=>by have:=(zJd zC5 h).2;have:=zG9 T;omega);have hz:=zKL a b (if e0=0 then (zAi L).1 else []).isEmpty (if e0=0 then (zAi L).1 else []).isEmpty T (if e0=0 then (zAi L).1 else []) (by omega) (fun x hx=>by have:=(hP x hx).kids;omega);have hT:zEe T (if (if e0=0 then (zAi L).2 else e0)=0∧eqBy qG T (if e0=0 then (zAi L).1 else [])=true then (wH T,0) else ([],4)):=.inr ⟨L,e0,hL,by omega,rfl⟩;simp only[wJ] at hr;generalize zEe T=TP at hT ⊢;generalize (if e0=0 then (zAi L).1 else [])=U at *;generalize (if e0=0 then (zAi L).2 else e0)=e at *;generalize hS:eqBy qG T U=S at *;generalize U.map Node.c=u at *;generalize U.isEmpty=ue at *;generalize wH T=s at *;generalize T.map Node.c=l at *;have hT:=Hid.mk hT;clear hP hb hm hL hS h6
 by_cases he:e=0
 ·subst he;cases S with
  |true =>
   (have F_:=xa9;show W CC 0 28 (zA 45) _ ⟨[(0,_)],[]⟩ _)
   (refine gA ?_)
   all_goals refine aJ ?_<;>exact⟨(_,_),⟨rfl,rfl⟩,by simpa using hT.h⟩
  |false =>
   (have F_:=xa9;show W CC 0 28 (zA 45) _ ⟨[(0,_)],[]⟩ _)
   (refine gA ?_)
   all_goals refine aJ ?_<;>exact⟨(_,_),⟨rfl,rfl⟩,by simpa using hT.h⟩
 have hl:(e != 0)=true:=by simpa using he
 (have F_:=xa9;show W CC 0 28 (zA 45) _ ⟨[(0,_)],[]⟩ _)
 (refine gA ?_)
 all_goals refine aJ ?_<;>exact⟨(_,_),⟨rfl,rfl⟩,by simpa [he] using hT.h⟩
def zXm (a b:Bool) (T:List Node) (hP:∀m ∈ T,PNode m) (hb:T.length≤60→∀x ∈ wH T,x<256) :
  ∃r:List Nat×Int,Om CC 52 [.t (.sl a b (T.map Node.c))] []=some (.val (.t (.bool (r.2==0))),[])∧zEe T r:=by
 obtain⟨r,hr,hT⟩:=zIz a b T hP hb;refine⟨r,?_,hT⟩;refine zL yHl rfl ?_;generalize T.map Node.c=l at *;obtain⟨r1,r2⟩:=r;dsimp only at hr ⊢;clear hT hP hb
 (have F_:=c5 zF zG zE zC (c5 zB zO zK zR (c3 zM zI (c2 yHO zXK)));show W CC 0 12 (zA 52) _ ⟨[(0,_)],[]⟩ _)
 (refine gA ?_)
 (refine aK ?_ ?_)
 ·rfl
 rfl
def Byt(s:List Nat):Prop:=∀b ∈ s,b<256
theorem Byt.app{s t:List Nat}(h1:Byt s)(h2:Byt t):Byt (s++t):=fun b hb=>(List.mem_append.1 hb).elim (h1 b) (h2 b)
theorem Byt.cons{a:Nat}{t:List Nat}(h1:a<256)(h2:Byt t):Byt (a::t):=fun b hb=>(List.mem_cons.1 hb).elim (fun h=>h ▸ h1) (h2 b)
theorem Byt.nil:Byt []:=fun b hb=>by cases hb
theorem Byt.nb(l:List UInt8):Byt (Go.Ab.nb l):=fun b hb=>by
 obtain⟨x,-,rfl⟩:=List.mem_map.1 hb;exact x.toNat_lt
structure PTest (x:Test):Prop where
 op:0≤x.op∧x.op<256
 a:x.a.l.length≤1000000000∧(∀m ∈ x.a.l,PNode m)∧(x.a.l.length≤60→Byt (wH x.a.l))
 b:x.b.l.length≤1000000000∧(∀m ∈ x.b.l,PNode m)∧(x.b.l.length≤60→Byt (wH x.b.l))
 kids:x.kids.l.length≤1000000000
theorem PTest.len{x:Test}(h:PTest x):TLen x:=by
 obtain⟨-,⟨a1,a2,-⟩,⟨b1,b2,-⟩,k⟩:=h;exact⟨by omega,⟨by omega,fun n hn=>by have:=(a2 n hn).kids;omega⟩,by omega,fun n hn=>by have:=(b2 n hn).kids;omega⟩
theorem TOK.len{x:Test}(h:TOK x):TLen x:=by
 obtain⟨⟨-,a1,a2,-⟩,⟨-,b1,b2,-⟩,k⟩:=h;exact⟨by omega,⟨by omega,fun n hn=>by have:=a2 n hn;omega⟩,by omega,fun n hn=>by have:=b2 n hn;omega⟩
theorem zEe.le{T:List Node}{r:List Nat×Int}(h:zEe T r)(hb:T.length≤60→Byt (wH T)):r.1.length≤65536∧Byt r.1:=by
 rcases h with ⟨-,rfl⟩|⟨L,e0,-,h6,rfl⟩
 ·exact⟨Nat.zero_le _,Byt.nil⟩
 by_cases hc:(if e0=0 then (zAi L).2 else e0)=0∧eqBy qG T (if e0=0 then (zAi L).1 else [])=true
 ·rw[if_pos hc];exact⟨zG9 T,hb h6⟩
 rw[if_neg hc];exact⟨Nat.zero_le _,Byt.nil⟩
def zIf(x:Test)(a r:List Nat):Prop:=∃(T:List Test) (e:Int),(e=0→ReadOK vpF a T)∧(e≠0→T=[]∧∀T,¬ ReadOK vpF a T)∧r=if e=0∧eqBy uV T [x]=true then a else 61::32::a
def xbA:=c5 zF zG zP zE (c5 zC zB zO zK (c5 zR yV zM yR (c3 zI zYh (c2 zBh zES))))
def zUA (x:Test) (a:List Nat) (ha:a.length≤65536) (hb:Byt a) :
  ∃r:List Nat,Om CC 47 [.t (.agg x.c),.t (.str a)] []=some (.val (.t (.str r)),[])∧((r=a∨r=61::32::a)∧zIf x a r):=by
 obtain⟨T,p,e,hr,hT,hN⟩:=zBu zFN zC5 a hb ha;have hs:e=0→Om CC 14 [.t (wL T),.t (.sl false false [x.c])] []=some (.val (.t (.bool (eqBy uV T [x]))),[]):=fun h=>zIO T.isEmpty T.isEmpty false false T [x] (by have:=(hT h).len;omega) (fun y hy=>((hT h).tok y hy).len)
 have hA:binop Tryz.prog .add 9 (.t (.str [61,32])) (.t (.str a))=some (.t (.str (61::32::a))):=yD (by simp;omega);have hP:zIf x a (if e=0∧eqBy uV T [x]=true then a else 61::32::a):=⟨T,e,hT,hN,rfl⟩
 refine zJ yDw rfl ?_;generalize zIf x a=AP at hP ⊢;obtain⟨op,⟨anl,acl,al⟩,⟨bnl,bcl,bl⟩,lo,hp,⟨nl,cl,kids⟩,line,col⟩:=x;simp only[wL,Test.c,Sl.t] at hr hs ⊢;generalize eqBy uV T _=S at hs hP;generalize T.map Test.c=l at *;generalize T.isEmpty=te at *;clear hT hN ha hb;have hP:=Hid.mk hP
 by_cases he:e=0
 ·have hs:=hs he;subst he;cases S
  all_goals
   (have F_:=xbA;show W CC 0 25 (zA 47) _ ⟨[(0,_),(1,_)],[]⟩ _)
   (refine gA ?_)
   ((refine aJ ?_))
   first|exact⟨_,⟨rfl,rfl⟩,.inl rfl,by simpa using hP.h⟩|exact⟨_,⟨rfl,rfl⟩,.inr rfl,by simpa using hP.h⟩
 have hl:(e==0)=false:=by simpa using he
 clear hs
 (have F_:=xbA;show W CC 0 25 (zA 47) _ ⟨[(0,_),(1,_)],[]⟩ _)
 (refine gA ?_)
 ((refine aJ ?_))
 exact⟨_,⟨rfl,rfl⟩,.inr rfl,by simpa [he] using hP.h⟩
def zTU(x:Test):∃r:List Nat×List Nat,Om CC 48 [.t (.agg x.c)] []=some (.val (.tup [.t (.str r.1),.t (.str r.2)]),[])∧(r.1=(if x.low then [40] else [91])∧r.2=(if x.high then [41] else [93])):=by
 refine zJ yEb rfl ?_;obtain⟨op,⟨anl,acl,al⟩,⟨bnl,bcl,bl⟩,lo,hp,⟨nl,cl,kids⟩,line,col⟩:=x;simp only[Test.c,Sl.t];cases lo<;>cases hp
 all_goals
  (have F_:=c5 zF zG zP zE (c5 zC zB zO zK (c3 zM yR (c2 zI yIM)));show W CC 0 12 (zA 48) _ ⟨[(0,_)],[]⟩ _)
  (refine gA ?_)
  ((refine aJ ?_))
  exact⟨(_,_),⟨rfl,rfl⟩,rfl,rfl⟩
end Go.Ab
