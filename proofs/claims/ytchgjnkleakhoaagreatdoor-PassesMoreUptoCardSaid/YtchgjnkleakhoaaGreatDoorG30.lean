/- Lemmas. -/
import Derived.Test.YtchgjnkleakhoaaGreatDoorG29
set_option maxRecDepth 1000000
set_option maxHeartbeats 40000000
set_option linter.all false
namespace Go.Ab
open Go.Proofs
attribute [local irreducible] W RW RR
def eqI(l r:List Int):Bool:=decide (l=r)
def zX1{l r:List Int}(h:l.length=r.length)(hn:∀j (hj:j<l.length) (hj2:j<r.length),l[j]=r[j]):eqI l r=true:=by
 simp only[eqI,decide_eq_true_eq];exact List.ext_getElem h fun j h1 h2=>hn j h1 h2
def zYm{l r:List Int}{i:Nat}(hi:i<l.length)(hj:i<r.length)(h:l[i]≠r[i]):eqI l r=false:=by
 simp only[eqI,decide_eq_false_iff_not];rintro rfl;exact h rfl
def zZO{l r:List Int}(h:l.length≠r.length):eqI l r=false:=by
 simp only[eqI,decide_eq_false_iff_not];rintro rfl;exact h rfl
def zNi (nl cl nl2 cl2:Bool) (l r:List Int) (hl:l.length<9223372036854775808) :
  Om CC 68 [.t (.sl nl cl (l.map intC)),.t (.sl nl2 cl2 (r.map intC))] []=some (.val (.t (.bool (eqI l r))),[]):=by
 refine zK yEE rfl ?_
 (have F_:=c3 zG zL yHS;show W CC 0 26 (zA 68) _ ⟨[(0,_),(1,_)],[]⟩ _)
 by_cases hlen:l.length=r.length
 ·have hlen':r.length=l.length:=hlen.symm;clear hlen
  (refine gA ?_)
  refine zY (α:=Nat) (fun i=>⟨[(0,.t (.sl nl cl (l.map intC))),(1,.t (.sl nl2 cl2 (r.map intC))),(12,.t (.int .i64 l.length)),(13,.t (.int .i64 i))],[]⟩) (fun i=>l.length - i)
   (fun i=>i≤l.length∧∀j (hj:j<l.length) (hj2:j<r.length),j<i→l[j]=r[j]) 0 (by kernel_rfl) ⟨Nat.zero_le _,fun j _ _ hj=>by omega⟩ ?_
  rintro i ⟨hi,hn⟩
  by_cases hi':i<l.length
  ·have hw:=wI64 i (by omega);have hj':i<r.length:=hlen'.symm ▸ hi';have he:l[i]?=some l[i]:=List.getElem?_eq_getElem hi';have he2:r[i]?=some r[i]:=List.getElem?_eq_getElem hj';have hd:decide ((i:Int)<l.length)=true:=by simpa using hi'
   by_cases hb:l[i]=r[i]
   ·have hb':(l[i] != r[i])=false:=by simpa using hb
    have hn':∀j (hj:j<l.length) (hj2:j<r.length),j<i+1→l[j]=r[j]:=fun j hj hj2 hji=>by
     rcases Nat.lt_or_ge j i with h|h
     ·exact hn j hj hj2 h
     obtain rfl:j=i:=by omega
     exact hb
    clear hn hb
    (refine gA ?_)
    refine zC (i+1) (by omega) ⟨by omega,hn'⟩ (by exact aTd)
   have hb':(l[i] != r[i])=true:=by simpa using hb
   have hr:eqI l r=false:=zYm hi' hj' hb;rw[hr];clear hn hr hb
   (refine gA ?_)
   ((refine aK ?_ ?_)<;>rfl)
  have hd:decide ((i:Int)<l.length)=false:=by simpa using hi'
  have hr:eqI l r=true:=zX1 hlen'.symm fun j hj hj2=>hn j hj hj2 (by omega)
  rw[hr];clear hn hr
  (refine gA ?_)
  ((refine aK ?_ ?_)<;>rfl)
 have h0:(((l.length:Nat):Int) != (r.length:Int))=true:=by
  rw[bne_iff_ne];omega
 rw[zZO hlen];clear hlen
 (refine gA ?_)
 ((refine aK ?_ ?_)<;>rfl)
def zAj(a b:Node):Bool:=(a.op==b.op)&&(decide (a.v=b.v)&&(beqL a.name b.name&&eqI a.kids.l b.kids.l))
def zZA(k n:Int)(s:List Nat)(k' n':Int)(s':List Nat):binop Tryz.prog .eql 49 (.t (.agg [.int .u8 k,.int .i64 n,.str s])) (.t (.agg [.int .u8 k',.int .i64 n',.str s']))=some (.t (.bool (decide ((⟨k,n,s⟩:Val)=⟨k',n',s'⟩)))):=by
 show binop Tryz.prog .eql 49 (.t (.agg (Val.c ⟨k,n,s⟩))) (.t (.agg (Val.c ⟨k',n',s'⟩)))=_
 rw[zQs _ _ _ _ zN6,zIJ 98];rfl
def zV9 (a b:Node) (hk:a.kids.l.length<9223372036854775808) :
  Om CC 98 [.t (.agg a.c),.t (.agg b.c)] []=some (.val (.t (.bool (zAj a b))),[]):=by
 refine zK yFF rfl ?_;obtain⟨op,⟨k,n,s⟩,name,⟨nl,cl,kids⟩,line,col⟩:=a;obtain⟨op',⟨k',n',s'⟩,name',⟨nl',cl',kids'⟩,line',col'⟩:=b;dsimp only at hk;have hq:=zNi nl cl nl' cl' kids kids' hk;have hx:=zZA k n s k' n' s';simp only[zAj];generalize decide ((⟨k,n,s⟩:Val)=⟨k',n',s'⟩)=e2 at *;generalize eqI kids kids'=e4 at *;cases e1:(op==op')<;>cases e2<;>cases e3:beqL name name'
 all_goals
  (have F_:=c5 zF zG zE zD (c5 zI zB zL zN (c2 yGF zXA));show W CC 0 31 (zA 98) _ ⟨[(0,_),(1,_)],[]⟩ _)
  (refine gA ?_)
  ((refine aK ?_ ?_)<;>rfl)
def eqBy{α:Type}(f:α→α→Bool):List α→List α→Bool
 |[],[]=>true
 |a::l,b::r=>f a b&&eqBy f l r
 |_,_=>false
def zKj{α:Type}{f:α→α→Bool}:∀ {l r:List α} (_:r.length=l.length) (_:∀j (hj:j<l.length) (hj2:j<r.length),f l[j] r[j]=true),eqBy f l r=true
 |[],[],_,_=>rfl
 |a::l,b::r,h,hn=>by
  have h0:=hn 0 (by simp) (by simp);have h1:=zKj (l:=l) (r:=r) (by simpa using h) fun j hj hj2=>by
   have:=hn (j+1) (by simp;omega) (by simp;omega)
   simpa using this
  simp only[List.getElem_cons_zero] at h0;simp [eqBy,h0,h1]
 |[],_::_,h,_=>by simp at h
 |_::_,[],h,_=>by simp at h
def zKf{α:Type}{f:α→α→Bool}:∀ {l r:List α} {i:Nat} (hi:i<l.length) (hj:i<r.length) (_:f l[i] r[i]=false),eqBy f l r=false
 |a::l,b::r,0,_,_,h=>by
  simp only[List.getElem_cons_zero] at h;simp [eqBy,h]
 |a::l,b::r,i+1,hi,hj,h=>by
  simp only[List.getElem_cons_succ] at h;simp [eqBy,zKf (by simpa using hi) (by simpa using hj) h]
def zKr{α:Type}{f:α→α→Bool}:∀ {l r:List α} (_:l.length≠r.length),eqBy f l r=false
 |[],[],h=>by simp at h
 |a::l,b::r,h=>by simp [eqBy,zKr (f:=f) (l:=l) (r:=r) (by simpa using h)]
 |[],_::_,_=>rfl
 |_::_,[],_=>rfl
def zUD (nl cl nl2 cl2:Bool) (l r:List Node) (hl:l.length<9223372036854775808) (hk:∀x ∈ l,x.kids.l.length<9223372036854775808) :
  Om CC 97 [.t (.sl nl cl (l.map Node.c)),.t (.sl nl2 cl2 (r.map Node.c)),.t (.fn 98)] []=some (.val (.t (.bool (eqBy zAj l r))),[]):=by
 refine zK yFb rfl ?_
 (have F_:=c5 zF zG zQ zE (c5 zD zI zB zO (c5 zL zN zTk yHA yHh));show W CC 0 32 (zA 97) _ ⟨[(0,_),(1,_),(2,_)],[]⟩ _)
 by_cases hlen:l.length=r.length
 ·have hlen':r.length=l.length:=hlen.symm;clear hlen
  (refine gA ?_)
  refine zY (α:=Nat) (fun i=>⟨[(1,.t (.sl nl2 cl2 (r.map Node.c))),(2,.t (.fn 98)),(15,.t (.sl nl cl (l.map Node.c))),(16,.t (.int .i64 l.length)),(17,.t (.int .i64 i))],[]⟩) (fun i=>l.length - i)
   (fun i=>i≤l.length∧∀j (hj:j<l.length) (hj2:j<r.length),j<i→zAj l[j] r[j]=true) 0 (by kernel_rfl) ⟨Nat.zero_le _,fun j _ _ hj=>by omega⟩ ?_
  rintro i ⟨hi,hn⟩
  by_cases hi':i<l.length
  ·have hw:=wI64 i (by omega);have hj':i<r.length:=hlen'.symm ▸ hi';have he:l[i]?=some l[i]:=List.getElem?_eq_getElem hi';have he2:r[i]?=some r[i]:=List.getElem?_eq_getElem hj';have hd:decide ((i:Int)<l.length)=true:=by simpa using hi'
   have hc:=zV9 l[i] r[i] (hk _ (List.getElem_mem hi'));cases hb:zAj l[i] r[i] with
   |true =>
    have hn':∀j (hj:j<l.length) (hj2:j<r.length),j<i+1→zAj l[j] r[j]=true:=fun j hj hj2 hji=>by
     rcases Nat.lt_or_ge j i with h|h
     ·exact hn j hj hj2 h
     obtain rfl:j=i:=by omega
     exact hb
    rw[hb] at hc;simp only[Node.c,Val.c,Sl.t] at hc;clear hn hb hk;generalize l[i]=a at *;generalize r[i]=b at *
    (refine gA ?_)
    refine zC (i+1) (by omega) ⟨by omega,hn'⟩ (by exact aTd)
   |false =>
    have hr:eqBy zAj l r=false:=zKf hi' hj' hb;rw[hr];rw[hb] at hc;simp only[Node.c,Val.c,Sl.t] at hc;clear hn hr hb hk;generalize l[i]=a at *;generalize r[i]=b at *
    (refine gA ?_)
    ((refine aK ?_ ?_)<;>rfl)
  have hd:decide ((i:Int)<l.length)=false:=by simpa using hi'
  have hr:eqBy zAj l r=true:=zKj hlen' fun j hj hj2=>hn j hj hj2 (by omega)
  rw[hr];clear hn hr hk
  (refine gA ?_)
  ((refine aK ?_ ?_)<;>rfl)
 have h0:(((l.length:Nat):Int) != (r.length:Int))=true:=by
  rw[bne_iff_ne];omega
 rw[zKr hlen];clear hlen hk
 (refine gA ?_)
 ((refine aK ?_ ?_)<;>rfl)
def zJS (nl cl nl2 cl2:Bool) (l r:List Node) (hl:l.length<9223372036854775808) (hk:∀x ∈ l,x.kids.l.length<9223372036854775808) :
  Om CC 69 [.t (.sl nl cl (l.map Node.c)),.t (.sl nl2 cl2 (r.map Node.c))] []=some (.val (.t (.bool (eqBy zAj l r))),[]):=by
 refine zK yER rfl ?_;have hc:=zUD nl cl nl2 cl2 l r hl hk;generalize eqBy zAj l r=e at *;clear hk
 (have F_:=c5 zF zG zE zD (c5 zI zB zO zL (c3 zN zTk (c2 yHl yHc)));show W CC 0 8 (zA 69) _ ⟨[(0,_),(1,_)],[]⟩ _)
 (refine gA ?_)
 ((refine aK ?_ ?_)<;>rfl)
def zAr(a b:Test):Bool:=(a.op==b.op)&&((a.low==b.low)&&((a.high==b.high)&&(eqI a.kids.l b.kids.l&&(eqBy zAj a.a.l b.a.l&&eqBy zAj a.b.l b.b.l))))
def TLen(a:Test):Prop:=a.kids.l.length<9223372036854775808∧(a.a.l.length<9223372036854775808∧∀x ∈ a.a.l,x.kids.l.length<9223372036854775808)∧(a.b.l.length<9223372036854775808∧∀x ∈ a.b.l,x.kids.l.length<9223372036854775808)
def zV0 (a b:Test) (hk:TLen a) :
  Om CC 67 [.t (.agg a.c),.t (.agg b.c)] []=some (.val (.t (.bool (zAr a b))),[]):=by
 refine zK yBZ rfl ?_;obtain⟨op,⟨anl,acl,al⟩,⟨bnl,bcl,bl⟩,lo,hi1,⟨nl,cl,kids⟩,line,col⟩:=a;obtain⟨op',⟨anl',acl',al'⟩,⟨bnl',bcl',bl'⟩,lo',hi1',⟨nl',cl',kids'⟩,line',col'⟩:=b;obtain⟨h1,⟨h2,h3⟩,⟨h4,h5⟩⟩:=hk;dsimp only at h1 h2 h3 h4 h5;have hi:=zNi nl cl nl' cl' kids kids' h1;have hx:=zJS anl acl anl' acl' al al' h2 h3;have hy:=zJS bnl bcl bnl' bcl' bl bl' h4 h5;clear h1 h2 h3 h4 h5;simp only[zAr];generalize eqI kids kids'=ei at *;generalize eqBy zAj al al'=ex at *;generalize eqBy zAj bl bl'=ey at *;cases e1:(op==op')<;>cases e2:(lo==lo')<;>cases e3:(hi1==hi1')<;>cases ei<;>cases ex
 all_goals
  (have F_:=c5 zF zG zQ zE (c5 zD zI zB zO (c5 zL yL zN yHs (c2 zXA zK1)));show W CC 0 45 (zA 67) _ ⟨[(0,_),(1,_)],[]⟩ _)
  (refine gA ?_)
  ((refine aK ?_ ?_)<;>rfl)
def zSX (nl cl nl2 cl2:Bool) (l r:List Test) (hl:l.length<9223372036854775808) (hk:∀x ∈ l,TLen x) :
  Om CC 66 [.t (.sl nl cl (l.map Test.c)),.t (.sl nl2 cl2 (r.map Test.c)),.t (.fn 67)] []=some (.val (.t (.bool (eqBy zAr l r))),[]):=by
 refine zK yB1 rfl ?_
 (have F_:=c5 zF zG zQ zE (c5 zD zI yM zB (c5 zO zL yL zN (c3 zS9 yHM yGs)));show W CC 0 32 (zA 66) _ ⟨[(0,_),(1,_),(2,_)],[]⟩ _)
 by_cases hlen:l.length=r.length
 ·have hlen':r.length=l.length:=hlen.symm;clear hlen
  (refine gA ?_)
  refine zY (α:=Nat) (fun i=>⟨[(1,.t (.sl nl2 cl2 (r.map Test.c))),(2,.t (.fn 67)),(15,.t (.sl nl cl (l.map Test.c))),(16,.t (.int .i64 l.length)),(17,.t (.int .i64 i))],[]⟩) (fun i=>l.length - i)
   (fun i=>i≤l.length∧∀j (hj:j<l.length) (hj2:j<r.length),j<i→zAr l[j] r[j]=true) 0 (by kernel_rfl) ⟨Nat.zero_le _,fun j _ _ hj=>by omega⟩ ?_
  rintro i ⟨hi,hn⟩
  by_cases hi':i<l.length
  ·have hw:=wI64 i (by omega);have hj':i<r.length:=hlen'.symm ▸ hi';have he:l[i]?=some l[i]:=List.getElem?_eq_getElem hi';have he2:r[i]?=some r[i]:=List.getElem?_eq_getElem hj';have hd:decide ((i:Int)<l.length)=true:=by simpa using hi'
   have hc:=zV0 l[i] r[i] (hk _ (List.getElem_mem hi'));cases hb:zAr l[i] r[i] with
   |true =>
    have hn':∀j (hj:j<l.length) (hj2:j<r.length),j<i+1→zAr l[j] r[j]=true:=fun j hj hj2 hji=>by
     rcases Nat.lt_or_ge j i with h|h
     ·exact hn j hj hj2 h
     obtain rfl:j=i:=by omega
     exact hb
    rw[hb] at hc;simp only[Test.c,Val.c,Sl.t] at hc;clear hn hb hk;generalize l[i]=a at *;generalize r[i]=b at *
    (refine gA ?_)
    refine zC (i+1) (by omega) ⟨by omega,hn'⟩ (by exact aTd)
   |false =>
    have hr:eqBy zAr l r=false:=zKf hi' hj' hb;rw[hr];rw[hb] at hc;simp only[Test.c,Val.c,Sl.t] at hc;clear hn hr hb hk;generalize l[i]=a at *;generalize r[i]=b at *
    (refine gA ?_)
    ((refine aK ?_ ?_)<;>rfl)
  have hd:decide ((i:Int)<l.length)=false:=by simpa using hi'
  have hr:eqBy zAr l r=true:=zKj hlen' fun j hj hj2=>hn j hj hj2 (by omega)
  rw[hr];clear hn hr hk
  (refine gA ?_)
  ((refine aK ?_ ?_)<;>rfl)
 have h0:(((l.length:Nat):Int) != (r.length:Int))=true:=by
  rw[bne_iff_ne];omega
 rw[zKr hlen];clear hlen hk
 (refine gA ?_)
 ((refine aK ?_ ?_)<;>rfl)
def zM7 (nl cl nl2 cl2:Bool) (l r:List Test) (hl:l.length<9223372036854775808) (hk:∀x ∈ l,TLen x) :
  Om CC 39 [.t (.sl nl cl (l.map Test.c)),.t (.sl nl2 cl2 (r.map Test.c))] []=some (.val (.t (.bool (eqBy zAr l r))),[]):=by
 refine zK yC2 rfl ?_;have hc:=zSX nl cl nl2 cl2 l r hl hk;generalize eqBy zAr l r=e at *;clear hk
 (have F_:=c5 zF zG zQ zE (c5 zD zI yM zB (c5 zO zL yL zN (c3 zS9 yHU yHL)));show W CC 0 8 (zA 39) _ ⟨[(0,_),(1,_)],[]⟩ _)
 (refine gA ?_)
 ((refine aK ?_ ?_)<;>rfl)
end Go.Ab
