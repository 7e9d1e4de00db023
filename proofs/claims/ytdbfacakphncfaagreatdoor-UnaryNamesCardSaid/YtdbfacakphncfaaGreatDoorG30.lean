/- Lemmas. -/
import Derived.Test.YtdbfacakphncfaaGreatDoorG29
set_option maxRecDepth 1000000
set_option maxHeartbeats 40000000
set_option linter.all false
namespace Go.Ab
open Go.Proofs
attribute [local irreducible] W RW RR
def eqI(l r:List Int):Bool:=decide (l=r)
def yBe{l r:List Int}(h:l.length=r.length)(hn:∀j (hj:j<l.length) (hh:j<r.length),l[j]=r[j]):eqI l r=true:=by
 simp only[eqI,decide_eq_true_eq];exact List.ext_getElem h fun j h1 h2=>hn j h1 h2
def zYR{l r:List Int}{i:Nat}(hi:i<l.length)(hj:i<r.length)(h:l[i]≠r[i]):eqI l r=false:=by
 simp only[eqI,decide_eq_false_iff_not];rintro rfl;exact h rfl
def zZH{l r:List Int}(h:l.length≠r.length):eqI l r=false:=by
 simp only[eqI,decide_eq_false_iff_not];rintro rfl;exact h rfl
def zOb (nl cl ho hp:Bool) (l r:List Int) (hl:l.length<9223372036854775808) :
  Om CC 28 [.t (.sl nl cl (l.map intC)),.t (.sl ho hp (r.map intC))] []=some (.val (.t (.bool (eqI l r))),[]):=by
 refine zL yCi rfl ?_
 (have F_:=c3 zG zM yHL;show W CC 0 26 (zA 28) _ ⟨[(0,_),(1,_)],[]⟩ _)
 by_cases ha:l.length=r.length
 ·have hf:r.length=l.length:=ha.symm;clear ha
  (refine gA ?_)
  refine yE (α:=Nat) (fun i=>⟨[(0,.t (.sl nl cl (l.map intC))),(1,.t (.sl ho hp (r.map intC))),(12,.t (.int .i64 l.length)),(13,.t (.int .i64 i))],[]⟩) (fun i=>l.length - i)
   (fun i=>i≤l.length∧∀j (hj:j<l.length) (hh:j<r.length),j<i→l[j]=r[j]) 0 (by kernel_rfl) ⟨Nat.zero_le _,fun j _ _ hj=>by omega⟩ ?_
  rintro i ⟨hi,hn⟩
  by_cases hm:i<l.length
  ·have hw:=wI64 i (by omega);have ht:i<r.length:=hf.symm ▸ hm;have he:l[i]?=some l[i]:=List.getElem?_eq_getElem hm;have hz:r[i]?=some r[i]:=List.getElem?_eq_getElem ht;have hd:decide ((i:Int)<l.length)=true:=by simpa using hm
   by_cases hb:l[i]=r[i]
   ·have hC:(l[i] != r[i])=false:=by simpa using hb
    have hu:∀j (hj:j<l.length) (hh:j<r.length),j<i+1→l[j]=r[j]:=fun j hj hh hA=>by
     rcases Nat.lt_or_ge j i with h|h
     ·exact hn j hj hh h
     obtain rfl:j=i:=by omega
     exact hb
    clear hn hb
    (refine gA ?_)
    refine zD (i+1) (by omega) ⟨by omega,hu⟩ (by exact aTd)
   have hC:(l[i] != r[i])=true:=by simpa using hb
   have hr:eqI l r=false:=zYR hm ht hb;rw[hr];clear hn hr hb
   (refine gA ?_)
   ((refine aK ?_ ?_)<;>rfl)
  have hd:decide ((i:Int)<l.length)=false:=by simpa using hm
  have hr:eqI l r=true:=yBe hf.symm fun j hj hh=>hn j hj hh (by omega)
  rw[hr];clear hn hr
  (refine gA ?_)
  ((refine aK ?_ ?_)<;>rfl)
 have h0:(((l.length:Nat):Int) != (r.length:Int))=true:=by
  rw[bne_iff_ne];omega
 rw[zZH ha];clear ha
 (refine gA ?_)
 ((refine aK ?_ ?_)<;>rfl)
def qG(a b:Node):Bool:=(a.op==b.op)&&(decide (a.v=b.v)&&(beqL a.name b.name&&eqI a.kids.l b.kids.l))
def zY8(k n:Int)(s:List Nat)(k' n':Int)(s':List Nat):binop Tryz.prog .eql 23 (.t (.agg [.int .u8 k,.int .i64 n,.str s])) (.t (.agg [.int .u8 k',.int .i64 n',.str s']))=some (.t (.bool (decide ((⟨k,n,s⟩:Val)=⟨k',n',s'⟩)))):=by
 show binop Tryz.prog .eql 23 (.t (.agg (Val.c ⟨k,n,s⟩))) (.t (.agg (Val.c ⟨k',n',s'⟩)))=_
 rw[zQW _ _ _ _ zUS,zSW 98];rfl
def zXs (a b:Node) (hk:a.kids.l.length<9223372036854775808) :
  Om CC 51 [.t (.agg a.c),.t (.agg b.c)] []=some (.val (.t (.bool (qG a b))),[]):=by
 refine zL yG7 rfl ?_;obtain⟨op,⟨k,n,s⟩,name,⟨nl,cl,kids⟩,line,col⟩:=a;obtain⟨op',⟨k',n',s'⟩,name',⟨nl',cl',kids'⟩,line',col'⟩:=b;dsimp only at hk;have hq:=zOb nl cl nl' cl' kids kids' hk;have hx:=zY8 k n s k' n' s';simp only[qG];generalize decide ((⟨k,n,s⟩:Val)=⟨k',n',s'⟩)=e2 at *;generalize eqI kids kids'=e4 at *;cases e1:(op==op')<;>cases e2<;>cases e3:beqL name name'
 all_goals
  (have F_:=c5 zF zG zE zC (c5 zB zK zM zI (c2 yHM zYk));show W CC 0 31 (zA 51) _ ⟨[(0,_),(1,_)],[]⟩ _)
  (refine gA ?_)
  ((refine aK ?_ ?_)<;>rfl)
def eqBy{α:Type}(f:α→α→Bool):List α→List α→Bool
 |[],[]=>true
 |a::l,b::r=>f a b&&eqBy f l r
 |_,_=>false
def zKv{α:Type}{f:α→α→Bool}:∀ {l r:List α} (_:r.length=l.length) (_:∀j (hj:j<l.length) (hh:j<r.length),f l[j] r[j]=true),eqBy f l r=true
 |[],[],_,_=>rfl
 |a::l,b::r,h,hn=>by
  have h0:=hn 0 (by simp) (by simp);have h1:=zKv (l:=l) (r:=r) (by simpa using h) fun j hj hh=>by
   have:=hn (j+1) (by simp;omega) (by simp;omega)
   simpa using this
  simp only[List.getElem_cons_zero] at h0;simp [eqBy,h0,h1]
 |[],_::_,h,_=>by simp at h
 |_::_,[],h,_=>by simp at h
def zKN{α:Type}{f:α→α→Bool}:∀ {l r:List α} {i:Nat} (hi:i<l.length) (hj:i<r.length) (_:f l[i] r[i]=false),eqBy f l r=false
 |a::l,b::r,0,_,_,h=>by
  simp only[List.getElem_cons_zero] at h;simp [eqBy,h]
 |a::l,b::r,i+1,hi,hj,h=>by
  simp only[List.getElem_cons_succ] at h;simp [eqBy,zKN (by simpa using hi) (by simpa using hj) h]
def zJ7{α:Type}{f:α→α→Bool}:∀ {l r:List α} (_:l.length≠r.length),eqBy f l r=false
 |[],[],h=>by simp at h
 |a::l,b::r,h=>by simp [eqBy,zJ7 (f:=f) (l:=l) (r:=r) (by simpa using h)]
 |[],_::_,_=>rfl
 |_::_,[],_=>rfl
def zV1 (nl cl ho hp:Bool) (l r:List Node) (hl:l.length<9223372036854775808) (hk:∀x ∈ l,x.kids.l.length<9223372036854775808) :
  Om CC 50 [.t (.sl nl cl (l.map Node.c)),.t (.sl ho hp (r.map Node.c)),.t (.fn 51)] []=some (.val (.t (.bool (eqBy qG l r))),[]):=by
 refine zL yEx rfl ?_
 (have F_:=c5 zF zG zP zE (c5 zC zB zO zK (c5 zM zI zUT yH4 yHo));show W CC 0 32 (zA 50) _ ⟨[(0,_),(1,_),(2,_)],[]⟩ _)
 by_cases ha:l.length=r.length
 ·have hf:r.length=l.length:=ha.symm;clear ha
  (refine gA ?_)
  refine yE (α:=Nat) (fun i=>⟨[(1,.t (.sl ho hp (r.map Node.c))),(2,.t (.fn 51)),(15,.t (.sl nl cl (l.map Node.c))),(16,.t (.int .i64 l.length)),(17,.t (.int .i64 i))],[]⟩) (fun i=>l.length - i)
   (fun i=>i≤l.length∧∀j (hj:j<l.length) (hh:j<r.length),j<i→qG l[j] r[j]=true) 0 (by kernel_rfl) ⟨Nat.zero_le _,fun j _ _ hj=>by omega⟩ ?_
  rintro i ⟨hi,hn⟩
  by_cases hm:i<l.length
  ·have hw:=wI64 i (by omega);have ht:i<r.length:=hf.symm ▸ hm;have he:l[i]?=some l[i]:=List.getElem?_eq_getElem hm;have hz:r[i]?=some r[i]:=List.getElem?_eq_getElem ht;have hd:decide ((i:Int)<l.length)=true:=by simpa using hm
   have hc:=zXs l[i] r[i] (hk _ (List.getElem_mem hm));cases hb:qG l[i] r[i] with
   |true =>
    have hu:∀j (hj:j<l.length) (hh:j<r.length),j<i+1→qG l[j] r[j]=true:=fun j hj hh hA=>by
     rcases Nat.lt_or_ge j i with h|h
     ·exact hn j hj hh h
     obtain rfl:j=i:=by omega
     exact hb
    rw[hb] at hc;simp only[Node.c,Val.c,Sl.t] at hc;clear hn hb hk;generalize l[i]=a at *;generalize r[i]=b at *
    (refine gA ?_)
    refine zD (i+1) (by omega) ⟨by omega,hu⟩ (by exact aTd)
   |false =>
    have hr:eqBy qG l r=false:=zKN hm ht hb;rw[hr];rw[hb] at hc;simp only[Node.c,Val.c,Sl.t] at hc;clear hn hr hb hk;generalize l[i]=a at *;generalize r[i]=b at *
    (refine gA ?_)
    ((refine aK ?_ ?_)<;>rfl)
  have hd:decide ((i:Int)<l.length)=false:=by simpa using hm
  have hr:eqBy qG l r=true:=zKv hf fun j hj hh=>hn j hj hh (by omega)
  rw[hr];clear hn hr hk
  (refine gA ?_)
  ((refine aK ?_ ?_)<;>rfl)
 have h0:(((l.length:Nat):Int) != (r.length:Int))=true:=by
  rw[bne_iff_ne];omega
 rw[zJ7 ha];clear ha hk
 (refine gA ?_)
 ((refine aK ?_ ?_)<;>rfl)
def zKL (nl cl ho hp:Bool) (l r:List Node) (hl:l.length<9223372036854775808) (hk:∀x ∈ l,x.kids.l.length<9223372036854775808) :
  Om CC 29 [.t (.sl nl cl (l.map Node.c)),.t (.sl ho hp (r.map Node.c))] []=some (.val (.t (.bool (eqBy qG l r))),[]):=by
 refine zL yDY rfl ?_;have hc:=zV1 nl cl ho hp l r hl hk;generalize eqBy qG l r=e at *;clear hk
 (have F_:=c5 zF zG zE zC (c5 zB zO zK zM (c3 zI zUT (c2 yHJ yIv)));show W CC 0 8 (zA 29) _ ⟨[(0,_),(1,_)],[]⟩ _)
 (refine gA ?_)
 ((refine aK ?_ ?_)<;>rfl)
def uV(a b:Test):Bool:=(a.op==b.op)&&((a.low==b.low)&&((a.high==b.high)&&(eqI a.kids.l b.kids.l&&(eqBy qG a.a.l b.a.l&&eqBy qG a.b.l b.b.l))))
def TLen(a:Test):Prop:=a.kids.l.length<9223372036854775808∧(a.a.l.length<9223372036854775808∧∀x ∈ a.a.l,x.kids.l.length<9223372036854775808)∧(a.b.l.length<9223372036854775808∧∀x ∈ a.b.l,x.kids.l.length<9223372036854775808)
def zXH (a b:Test) (hk:TLen a) :
  Om CC 27 [.t (.agg a.c),.t (.agg b.c)] []=some (.val (.t (.bool (uV a b))),[]):=by
 refine zL yFp rfl ?_;obtain⟨op,⟨anl,acl,al⟩,⟨bnl,bcl,bl⟩,lo,hD,⟨nl,cl,kids⟩,line,col⟩:=a;obtain⟨op',⟨anl',acl',al'⟩,⟨bnl',bcl',bl'⟩,lo',hv,⟨nl',cl',kids'⟩,line',col'⟩:=b;obtain⟨h1,⟨h2,h3⟩,⟨h4,h5⟩⟩:=hk;dsimp only at h1 h2 h3 h4 h5;have hi:=zOb nl cl nl' cl' kids kids' h1;have hx:=zKL anl acl anl' acl' al al' h2 h3;have hy:=zKL bnl bcl bnl' bcl' bl bl' h4 h5;clear h1 h2 h3 h4 h5;simp only[uV];generalize eqI kids kids'=ei at *;generalize eqBy qG al al'=ex at *;generalize eqBy qG bl bl'=ey at *;cases e1:(op==op')<;>cases e2:(lo==lo')<;>cases e3:(hD==hv)<;>cases ei<;>cases ex
 all_goals
  (have F_:=c5 zF zG zP zE (c5 zC zB zO zK (c5 zM yR zI yHr (c2 zYk zLt)));show W CC 0 45 (zA 27) _ ⟨[(0,_),(1,_)],[]⟩ _)
  (refine gA ?_)
  ((refine aK ?_ ?_)<;>rfl)
def zUD (nl cl ho hp:Bool) (l r:List Test) (hl:l.length<9223372036854775808) (hk:∀x ∈ l,TLen x) :
  Om CC 26 [.t (.sl nl cl (l.map Test.c)),.t (.sl ho hp (r.map Test.c)),.t (.fn 27)] []=some (.val (.t (.bool (eqBy uV l r))),[]):=by
 refine zL yB3 rfl ?_
 (have F_:=c5 zF zG zP zE (c5 zC zB zO zK (c5 yV zM yR zYe (c3 zI yHG yIf)));show W CC 0 32 (zA 26) _ ⟨[(0,_),(1,_),(2,_)],[]⟩ _)
 by_cases ha:l.length=r.length
 ·have hf:r.length=l.length:=ha.symm;clear ha
  (refine gA ?_)
  refine yE (α:=Nat) (fun i=>⟨[(1,.t (.sl ho hp (r.map Test.c))),(2,.t (.fn 27)),(15,.t (.sl nl cl (l.map Test.c))),(16,.t (.int .i64 l.length)),(17,.t (.int .i64 i))],[]⟩) (fun i=>l.length - i)
   (fun i=>i≤l.length∧∀j (hj:j<l.length) (hh:j<r.length),j<i→uV l[j] r[j]=true) 0 (by kernel_rfl) ⟨Nat.zero_le _,fun j _ _ hj=>by omega⟩ ?_
  rintro i ⟨hi,hn⟩
  by_cases hm:i<l.length
  ·have hw:=wI64 i (by omega);have ht:i<r.length:=hf.symm ▸ hm;have he:l[i]?=some l[i]:=List.getElem?_eq_getElem hm;have hz:r[i]?=some r[i]:=List.getElem?_eq_getElem ht;have hd:decide ((i:Int)<l.length)=true:=by simpa using hm
   have hc:=zXH l[i] r[i] (hk _ (List.getElem_mem hm));cases hb:uV l[i] r[i] with
   |true =>
    have hu:∀j (hj:j<l.length) (hh:j<r.length),j<i+1→uV l[j] r[j]=true:=fun j hj hh hA=>by
     rcases Nat.lt_or_ge j i with h|h
     ·exact hn j hj hh h
     obtain rfl:j=i:=by omega
     exact hb
    rw[hb] at hc;simp only[Test.c,Val.c,Sl.t] at hc;clear hn hb hk;generalize l[i]=a at *;generalize r[i]=b at *
    (refine gA ?_)
    refine zD (i+1) (by omega) ⟨by omega,hu⟩ (by exact aTd)
   |false =>
    have hr:eqBy uV l r=false:=zKN hm ht hb;rw[hr];rw[hb] at hc;simp only[Test.c,Val.c,Sl.t] at hc;clear hn hr hb hk;generalize l[i]=a at *;generalize r[i]=b at *
    (refine gA ?_)
    ((refine aK ?_ ?_)<;>rfl)
  have hd:decide ((i:Int)<l.length)=false:=by simpa using hm
  have hr:eqBy uV l r=true:=zKv hf fun j hj hh=>hn j hj hh (by omega)
  rw[hr];clear hn hr hk
  (refine gA ?_)
  ((refine aK ?_ ?_)<;>rfl)
 have h0:(((l.length:Nat):Int) != (r.length:Int))=true:=by
  rw[bne_iff_ne];omega
 rw[zJ7 ha];clear ha hk
 (refine gA ?_)
 ((refine aK ?_ ?_)<;>rfl)
def zIO (nl cl ho hp:Bool) (l r:List Test) (hl:l.length<9223372036854775808) (hk:∀x ∈ l,TLen x) :
  Om CC 14 [.t (.sl nl cl (l.map Test.c)),.t (.sl ho hp (r.map Test.c))] []=some (.val (.t (.bool (eqBy uV l r))),[]):=by
 refine zL yES rfl ?_;have hc:=zUD nl cl ho hp l r hl hk;generalize eqBy uV l r=e at *;clear hk
 (have F_:=c5 zF zG zP zE (c5 zC zB zO zK (c5 yV zM yR zYe (c3 zI yHK yIW)));show W CC 0 8 (zA 14) _ ⟨[(0,_),(1,_)],[]⟩ _)
 (refine gA ?_)
 ((refine aK ?_ ?_)<;>rfl)
end Go.Ab
