/- Lemmas. -/
import Derived.Test.YtchgjnkleakhoaaGreatDoorG31
set_option maxRecDepth 1000000
set_option maxHeartbeats 40000000
set_option linter.all false
namespace Go.Ab
open Go.Proofs
attribute [local irreducible] W RW RR
def zTf{k n:Int}{s:List Nat}{e:Int}(h:(e==0)=false):Om CC 85 [.t (.agg [.int .u8 k,.int .i64 n,.str s,.int .i64 e])] []=some (.val (.t (.agg [.int .u8 k,.int .i64 n,.str s,.int .i64 e])),[]):=by
 refine zK zO0 rfl ?_
 (have F_:=xaZ;show W CC 0 20 (zA 85) _ ⟨[(0,_)],[]⟩ _)
 (refine gA ?_)
 all_goals (refine aK ?_ ?_)<;>(rfl)
def yAY {k n:Int} {s:List Nat} {e:Int} (h:(e==0)=false) (ht:Om CC 85 [.t (.agg [.int .u8 k,.int .i64 n,.str s,.int .i64 e])] []=some (.val (.t (.agg [.int .u8 k,.int .i64 n,.str s,.int .i64 e])),[])) :
  Om CC 56 [.t (.agg [.int .u8 k,.int .i64 n,.str s,.int .i64 e])] []=some (.val (.t (.agg [.int .u8 k,.int .i64 n,.str s,.int .i64 e])),[]):=by
 refine zK zOn rfl ?_
 (have F_:=c5 zF zE zD zB (c3 zU zCo (c2 zRZ zK3));show W CC 0 13 (zA 56) _ ⟨[(0,_)],[]⟩ _)
 (refine gA ?_)
 all_goals (refine aK ?_ ?_)<;>(rfl)
def zY0{k n:Int}{s:List Nat}{e:Int}{k' n':Int}{s':List Nat}{e':Int}(h:Om CC 56 [.t (.agg [.int .u8 k,.int .i64 n,.str s,.int .i64 e])] []=some (.val (.t (.agg [.int .u8 k',.int .i64 n',.str s',.int .i64 e'])),[])):NotU ⟨⟨k,n,s⟩,e⟩=⟨⟨k',n',s'⟩,e'⟩:=by
 have h2:=zIX k n s e;rw[h] at h2;simp only[Option.some.injEq,Prod.mk.injEq,Out.val.injEq,AV.t.injEq,Tree.agg.injEq,List.cons.injEq,Tree.int.injEq,Tree.str.injEq,and_true,true_and] at h2;obtain⟨h3,h4,h5,h6⟩:=h2;rw[h3,h4,h5,h6]
def zCT(t:List Test):List Nat×Bool :=
 match t with
 |[x]=>if x.op=2 then (match x.a.l with
  |[n]=>if n.op=2 then (n.name,true) else ([],false)
  |_=>([],false)) else ([],false)
 |_=>([],false)
def zS0(nl cl:Bool)(t:List Test):Om CC 17 [.t (.sl nl cl (t.map Test.c))] []=some (.val (.tup [.t (.str (zCT t).1),.t (.bool (zCT t).2)]),[]):=by
 refine zK yFL rfl ?_
 (have F_:=c5 zF zG zQ zE (c5 zD zI yM zB (c5 zO zL yL zN (c2 yHd @vT)));show W CC 0 39 (zA 17) _ ⟨[(0,_)],[]⟩ _)
 match t with
 |[] =>
  (repeat' first|refine gA ?_|refine gT ?_ ?_<;>intro hv<;>try cases hv;done|fail)
  (refine aK ?_ ?_)
  ·rfl
  rfl
 |x::y::r =>
  have hl:(((r.length+1+1:Nat):Int) != 1)=true:=by simp;omega
  (repeat' first|refine gA ?_|refine gT ?_ ?_<;>intro hv<;>try cases hv;done|fail)
  (refine aK ?_ ?_)
  ·rfl
  rfl
 |[x] =>
  by_cases h1:x.op=2
  ·have e1:(x.op != 2)=false:=by simpa using h1
   obtain⟨op,⟨anl,acl,al⟩,b,lo,hi,kids,line,col⟩:=x;dsimp only at h1 e1;subst h1
   match al with
   |[] =>
    (repeat' first|refine gA ?_|refine gT ?_ ?_<;>intro hv<;>try cases hv;done|fail)
    (refine aK ?_ ?_)
    ·rfl
    rfl
   |n::n'::r =>
    have hl:(((r.length+1+1:Nat):Int) != 1)=true:=by simp;omega
    (repeat' first|refine gA ?_|refine gT ?_ ?_<;>intro hv<;>try cases hv;done|fail)
    (refine aK ?_ ?_)
    ·rfl
    rfl
   |[n] =>
    by_cases h2:n.op=2
    ·have e2:(n.op != 2)=false:=by simpa using h2
     (repeat' first|refine gA ?_|refine gT ?_ ?_<;>intro hv<;>try cases hv;done|fail)
     (refine aK ?_ ?_)
     ·simp [zCT,h2]
     rfl
    have e2:(n.op != 2)=true:=by simpa using h2
    (repeat' first|refine gA ?_|refine gT ?_ ?_<;>intro hv<;>try cases hv;done|fail)
    (refine aK ?_ ?_)
    ·simp [zCT,h2]
    rfl
  have e1:(x.op != 2)=true:=by simpa using h1
  (repeat' first|refine gA ?_|refine gT ?_ ?_<;>intro hv<;>try cases hv;done|fail)
  (refine aK ?_ ?_)
  ·simp [zCT,h1]
  rfl
def yAv(d:Nat)(v w:Bind):equal Tryz.prog (d+1+1+1) 51 (.agg v.c) (.agg w.c)=some (decide (v=w)):=by
 have h:=zIJ d v.v w.v;simp only[Val.c] at h;simp only[Bind.c,Val.c,yEc,zEJ,zEc,zNS,zU5,zQo,nth,zPh _ _ _ _ _ zEg,cut,List.length_cons,List.length_nil,Nat.reduceAdd,Nat.reduceLeDiff,if_true,List.drop,List.take,h,zRA,Bool.and_true]
 congr 1
 obtain⟨k,n⟩:=v;obtain⟨k',n'⟩:=w;simp only[vC,Bind.mk.injEq]
 by_cases h1:k=k'<;>by_cases h2:n=n'<;>simp [h1,h2]
def zWk(v w:Bind):binop Tryz.prog .neq 51 (.t (.agg v.c)) (.t (.agg w.c))=some (.t (.bool (!decide (v=w)))):=by
 rw[zQS _ _ _ _ yD0,yAv 97];rfl
def yF9 (tn:List Nat) (tnl tcl:Bool) (l:List (List Tree)) (pn pt:List Nat) (snl scl:Bool) (sl:List (List Tree)) (line col:Int) :
  Om CC 14 [.t (.agg [.str tn,.sl tnl tcl l]),.box 0 0] [.box [.t (.str pn),.t (.str pt),.t (.sl snl scl sl),.t (.int .i64 line),.t (.int .i64 col)]]=some (.val (.t (.bool (beqL tn pt))),[.box [.t (.str pn),.t (.str pt),.t (.sl snl scl sl),.t (.int .i64 line),.t (.int .i64 col)]]):=by
 refine zK yDE rfl ?_
 (have F_:=c5 zF zG zQ zE (c5 zD zCL zI zCR (c5 yM zCM zBw zBA (c5 zB zBz zO zL (c3 yL zN yHH))));show W CC 1 9 (zA 14) _ ⟨[(0,_),(1,_)],[_]⟩ _)
 (repeat' first|refine gA ?_|refine gT ?_ ?_<;>intro hv<;>try cases hv;done|fail)
 (refine aK ?_ ?_)
 ·rfl
 rfl
def zIv(l:List Bind)(n1 k1 n2 k2:Bool)(hl:l.length<9223372036854775808):Om CC 8 [.t (.sl n1 k1 (l.map Bind.c)),.t (.sl n2 k2 (l.map Bind.c))] []=some (.val (.t (.bool true)),[]):=by
 refine zK yHK rfl ?_;have h0:((l.length:Int) != (l.length:Int))=false:=by simp
 (have F_:=c5 zF zG zE zD (c3 uH zB (c2 vV yHX));show W CC 0 26 (zA 8) _ ⟨[(0,_),(1,_)],[]⟩ _)
 (repeat' first|refine gA ?_|refine gT ?_ ?_<;>intro hv<;>try cases hv;done|fail)
 refine zY (α:=Nat) (fun i=>⟨[(0,.t (.sl n1 k1 (l.map Bind.c))),(1,.t (.sl n2 k2 (l.map Bind.c))),(5,.t (.int .i64 i))],[]⟩) (fun i=>l.length - i) (fun i=>i≤l.length) 0 (by kernel_rfl) (Nat.zero_le _) ?_;intro i hi
 by_cases hi':i<l.length
 ·have hw:=wI64 i (by omega);have he:l[i]?=some l[i]:=List.getElem?_eq_getElem hi';have hd:decide ((i:Int)<l.length)=true:=by simpa using hi'
  have hb:binop Tryz.prog .neq 51 (.t (.agg l[i].c)) (.t (.agg l[i].c))=some (.t (.bool false)):=by rw[zWk];simp
  generalize l[i]=b at he hb;simp only[Bind.c,Val.c] at hb
  (repeat' first|refine gA ?_|refine gT ?_ ?_<;>intro hv<;>try cases hv;done|fail)
  refine zC (i+1) (by omega) (by omega) (by exact aTd)
 have hd:decide ((i:Int)<l.length)=false:=by simpa using hi'
 (repeat' first|refine gA ?_|refine gT ?_ ?_<;>intro hv<;>try cases hv;done|fail)
 (refine aK ?_ ?_)
 ·rfl
 rfl
def yAx (nl cl:Bool) (l:List Test) (hl:l.length<9223372036854775808) (hx:∀x ∈ l,x.a.l.length<9223372036854775808∧x.b.l.length<9223372036854775808) :
  ∃n:Int,Om CC 10 [.t (.sl nl cl (l.map Test.c))] []=some (.val (.t (.int .i64 n)),[])∧True:=by
 refine zJ yCM rfl ?_
 (have F_:=c5 zF zG zQ zE (c5 zD zI yM zB (c5 zO zL yL zN yHb));show W CC 0 116 (zA 10) _ ⟨[(0,_)],[]⟩ _)
 (repeat' first|refine gA ?_|refine gT ?_ ?_<;>intro hv<;>try cases hv;done|fail)
 refine zY (α:=Nat×Int) (fun a=>⟨[(0,.t (.sl nl cl (l.map Test.c))),(3,.t (.int .i64 a.2)),(4,.t (.int .i64 a.1))],[]⟩)
  (fun a=>l.length - a.1) (fun a=>a.1≤l.length) (0,(l.length:Int)) (by exact aTd) (Nat.zero_le _) ?_
 rintro⟨i,n⟩ hi;dsimp only at hi
 by_cases hi':i<l.length
 ·have hw:=wI64 i (by omega);have he:l[i]?=some l[i]:=List.getElem?_eq_getElem hi';have hd:decide ((i:Int)<l.length)=true:=by simpa using hi'
  have hh:=hx l[i] (List.getElem_mem hi');generalize l[i]=x at he hh;have hh:=Hid.mk hh;have hx:=Hid.mk hx;have hl:=Hid.mk hl;obtain⟨op,⟨anl,acl,al⟩,⟨bnl,bcl,bl⟩,lo,hi1,⟨knl,kcl,kids⟩,line,col⟩:=x
  (repeat' first|refine gA ?_|refine gT ?_ ?_<;>intro hv<;>try cases hv;done|fail)
  refine zY (α:=Nat×Int) (fun a=>⟨[(0,.t (.sl nl cl (l.map Test.c))),(3,.t (.int .i64 a.2)),(4,.t (.int .i64 i)),(5,.t (.int .i64 a.1))],[]⟩)
   (fun a=>al.length - a.1) (fun a=>a.1≤al.length) (0,?_) ?_ (Nat.zero_le _) ?_
  rotate_left
  ·exact aTd
  rintro⟨j,n⟩ hj;dsimp only at hj
  by_cases hj':j<al.length
  ·have hwj:IntKind.i64.wrap ((j:Int)+1)=((j+1:Nat):Int):=by have:=hh.h.1;dsimp only at this;rw[wrap64]<;>omega
   have hej:al[j]?=some al[j]:=List.getElem?_eq_getElem hj';have hdj:decide ((j:Int)<al.length)=true:=by simpa using hj'
   generalize al[j]=y at hej;obtain⟨yop,⟨yk,yn,ys⟩,yname,⟨ynl,ycl,yl⟩,yline,ycol⟩:=y
   (repeat' first|refine gA ?_|refine gT ?_ ?_<;>intro hv<;>try cases hv;done|fail)
   refine zC (j+1,?_) (by dsimp only;omega) (by dsimp only;omega) ?_
   rotate_left
   exact aTd
  have hdj:decide ((j:Int)<al.length)=false:=by simpa using hj'
  clear hj hj'
  (repeat' first|refine gA ?_|refine gT ?_ ?_<;>intro hv<;>try cases hv;done|fail)
  refine zY (α:=Nat×Int) (fun a=>⟨[(0,.t (.sl nl cl (l.map Test.c))),(3,.t (.int .i64 a.2)),(4,.t (.int .i64 i)),(6,.t (.int .i64 a.1))],[]⟩)
   (fun a=>bl.length - a.1) (fun a=>a.1≤bl.length) (0,?_) ?_ (Nat.zero_le _) ?_
  rotate_left
  ·exact aTd
  clear hdj;rintro⟨j,n⟩ hj;dsimp only at hj
  by_cases hj':j<bl.length
  ·have hwj:IntKind.i64.wrap ((j:Int)+1)=((j+1:Nat):Int):=by have:=hh.h.2;dsimp only at this;rw[wrap64]<;>omega
   have hej:bl[j]?=some bl[j]:=List.getElem?_eq_getElem hj';have hdj:decide ((j:Int)<bl.length)=true:=by simpa using hj'
   generalize bl[j]=y at hej;obtain⟨yop,⟨yk,yn,ys⟩,yname,⟨ynl,ycl,yl⟩,yline,ycol⟩:=y
   (repeat' first|refine gA ?_|refine gT ?_ ?_<;>intro hv<;>try cases hv;done|fail)
   refine zC (j+1,?_) (by dsimp only;omega) (by dsimp only;omega) ?_
   rotate_left
   exact aTd
  have hdj:decide ((j:Int)<bl.length)=false:=by simpa using hj'
  clear hj hj'
  (repeat' first|refine gA ?_|refine gT ?_ ?_<;>intro hv<;>try cases hv;done|fail)
  refine zC (i+1,?_) (by dsimp only;omega) (by dsimp only;omega) ?_
  rotate_left
  exact aTd
 have hd:decide ((i:Int)<l.length)=false:=by simpa using hi'
 clear hx
 (repeat' first|refine gA ?_|refine gT ?_ ?_<;>intro hv<;>try cases hv;done|fail)
 (refine aJ ?_)
 exact⟨_,⟨rfl,rfl⟩,trivial⟩
def zWH (p:Pat) (hl:p.slots.l.length<9223372036854775808) (hx:∀s ∈ p.slots.l,s.test.l.length<9223372036854775808∧∀x ∈ s.test.l,x.a.l.length<9223372036854775808∧x.b.l.length<9223372036854775808) :
  ∃b:Bool,Om CC 5 [.t (.agg p.c)] []=some (.val (.t (.bool b)),[])∧True:=by
 refine zJ yHk rfl ?_;obtain⟨pn,pt,⟨snl,scl,l⟩,line,col⟩:=p;dsimp only at hl hx;have hl:=Hid.mk hl;have hx:=Hid.mk hx
 (have F_:=c5 zF zG zQ zE (c5 zD zCL zI zCR (c5 yM zCM zB zO (c5 zL yL zN yHW yGH)));show W CC 0 29 (zA 5) _ ⟨[(0,_)],[]⟩ _)
 (repeat' first|refine gA ?_|refine gT ?_ ?_<;>intro hv<;>try cases hv;done|fail)
 refine zY (α:=Nat×Int) (fun a=>⟨[(1,.box 0 0),(3,.t (.int .i64 a.2)),(4,.t (.int .i64 a.1))],[.box [.t (.str pn),.t (.str pt),.t (.sl snl scl (l.map STest.c)),.t (.int .i64 line),.t (.int .i64 col)]]⟩)
  (fun a=>l.length - a.1) (fun a=>a.1≤l.length) (0,0) (by exact aTd) (Nat.zero_le _) ?_
 rintro⟨i,n⟩ hi;dsimp only at hi
 by_cases hi':i<l.length
 ·have hw:=wI64 i (by have:=hl.h;omega);have he:l[i]?=some l[i]:=List.getElem?_eq_getElem hi';have hd:decide ((i:Int)<l.length)=true:=by simpa using hi'
  have hh:=hx.h l[i] (List.getElem_mem hi');generalize l[i]=x at he hh;obtain⟨slot,⟨tnl,tcl,tl⟩,xline,xcol⟩:=x;dsimp only at hh;obtain⟨k,hk,-⟩:=yAx tnl tcl tl hh.1 hh.2;clear hh
  (repeat' first|refine gA ?_|refine gT ?_ ?_<;>intro hv<;>try cases hv;done|fail)
  refine zC (i+1,?_) (by dsimp only;omega) (by dsimp only;omega) ?_
  rotate_left
  exact aTd
 have hd:decide ((i:Int)<l.length)=false:=by simpa using hi'
 clear hi hi';rcases Bool.eq_false_or_eq_true (decide ((l.length:Int) > 8)) with hb|hb
 all_goals (repeat' first|refine gA ?_|refine gT ?_ ?_<;>intro hv<;>try cases hv;done|fail)<;>refine aJ ?_<;>exact⟨_,⟨rfl,rfl⟩,trivial⟩
def zCg(name:List Nat)(l:List Tpl):Int :=
 match l.findIdx? (fun t=>beqL t.name name) with
 |some i=>i
 |none=>-1
def zUN{name:List Nat}{l:List Tpl}{i:Nat}(hi:i<l.length)(h:beqL l[i].name name=true)(hn:∀j (hj:j<l.length),j<i→beqL l[j].name name=false):zCg name l=i:=by
 have:l.findIdx? (fun t=>beqL t.name name)=some i:=by
  rw[List.findIdx?_eq_some_iff_getElem];exact⟨hi,h,fun j hj=>by simp [hn j (by omega) hj]⟩
 unfold zCg;rw[this]
def zRe{name:List Nat}{l:List Tpl}(hn:∀j (hj:j<l.length),beqL l[j].name name=false):zCg name l=-1:=by
 have:l.findIdx? (fun t=>beqL t.name name)=none:=by
  rw[List.findIdx?_eq_none_iff];intro x hx;obtain⟨j,hj,rfl⟩:=List.getElem_of_mem hx;exact hn j hj
 unfold zCg;rw[this]
def zOP (ts:Sl Tpl) (pn pt:List Nat) (snl scl:Bool) (sl:List (List Tree)) (line col:Int) (hl:ts.l.length<9223372036854775808) :
  Om CC 13 [.t (ts.t Tpl.c),.fn 14 [] [.box 0 0]] [.box [.t (.str pn),.t (.str pt),.t (.sl snl scl sl),.t (.int .i64 line),.t (.int .i64 col)]]=some (.val (.t (.int .i64 (zCg pt ts.l))),[.box [.t (.str pn),.t (.str pt),.t (.sl snl scl sl),.t (.int .i64 line),.t (.int .i64 col)]]):=by
 refine zK yD1 rfl ?_;obtain⟨tnl,tcl,l⟩:=ts;dsimp only at hl ⊢
 (have F_:=c5 zG zE zD zCS (c5 zBw zBA zBz zLJ (c2 yHo yGz));show W CC 1 19 (zA 13) _ ⟨[(0,_),(1,_)],[_]⟩ _)
 (repeat' first|refine gA ?_|refine gT ?_ ?_<;>intro hv<;>try cases hv;done|fail)
 refine zY (α:=Nat) (fun i=>⟨[(0,.t (.sl tnl tcl (l.map Tpl.c))),(1,.fn 14 [] [.box 0 0]),(7,.t (.int .i64 l.length)),(8,.t (.int .i64 i))],[.box [.t (.str pn),.t (.str pt),.t (.sl snl scl sl),.t (.int .i64 line),.t (.int .i64 col)]]⟩) (fun i=>l.length - i)
  (fun i=>i≤l.length∧∀j (hj:j<l.length),j<i→beqL l[j].name pt=false) 0 (by exact aTd) ⟨Nat.zero_le _,fun j _ hj=>by omega⟩ ?_
 rintro i ⟨hi,hn⟩
 by_cases hi':i<l.length
 ·have hw:=wI64 i (by omega);have he:l[i]?=some l[i]:=List.getElem?_eq_getElem hi';have hd:decide ((i:Int)<l.length)=true:=by simpa using hi'
  have hc:=yF9 l[i].name l[i].slots.nl l[i].slots.cl (l[i].slots.l.map Slot.c) pn pt snl scl sl line col;cases hb:beqL l[i].name pt with
  |true =>
   have hr:=zUN hi' hb hn;rw[hr];rw[hb] at hc;clear hn hr hb;generalize l[i]=b at *;obtain⟨bn,⟨bnl,bcl,bl⟩⟩:=b;dsimp only at hc
   (repeat' first|refine gA ?_|refine gT ?_ ?_<;>intro hv<;>try cases hv;done|fail)
   (refine aK ?_ ?_)
   ·rfl
   rfl
  |false =>
   have hn':∀j (hj:j<l.length),j<i+1→beqL l[j].name pt=false:=fun j hj hji=>by
    rcases Nat.lt_or_ge j i with h|h
    ·exact hn j hj h
    obtain rfl:j=i:=by omega
    exact hb
   rw[hb] at hc;have hn':=Hid.mk hn';clear hn hb;generalize l[i]=b at *;obtain⟨bn,⟨bnl,bcl,bl⟩⟩:=b;dsimp only at hc
   (repeat' first|refine gA ?_|refine gT ?_ ?_<;>intro hv<;>try cases hv;done|fail)
   refine zC (i+1) (by omega) ⟨by omega,hn'.h⟩ (by exact aTd)
 have hd:decide ((i:Int)<l.length)=false:=by simpa using hi'
 have hr:=zRe fun j hj=>hn j hj (by omega)
 rw[hr];clear hn hr
 (repeat' first|refine gA ?_|refine gT ?_ ?_<;>intro hv<;>try cases hv;done|fail)
 (refine aK ?_ ?_)
 ·rfl
 rfl
def xbA:=c5 zF zE zD uH (c3 zB vV zIO)
def zUv(cl:Bool)(es:List (List Tree)):Om CC 15 [.t (.sl true cl es)] []=some (.val (.t (.sl true true [])),[]):=by
 refine zK zTN rfl ?_
 (have F_:=xbA;show W CC 0 8 (zA 15) _ ⟨[(0,_)],[]⟩ _)
 repeat (first|(with_reducible first|apply uX|apply jN|apply zAy|apply zAC|apply uF|apply jI|apply kK|apply jP|apply uD|apply zAz)|(refine zAB (by kernel_rfl) ?_)|(with_reducible first|apply jJ|apply jL|apply kH|apply jO|apply jK|apply zCU|apply zBn|apply zBq|apply zCr|apply zEk|apply zCt|apply zBu)|((with_reducible apply zFb);(focus kernel_rfl);(focus (simp only[beq_true,beq_false,Bool.true_beq,Bool.false_beq,decide_true,decide_false,Int.ofNat_eq_natCast,List.length_map,List.getElem?_map,Option.map_some,xH,wanted,exec1,zAq,uY,xBox,qS,wB,xLen,uQ,wK,xM,uZ,cellsOf,zM,opds,qA,get,putT,ret,retO,lit,lit1,patch,put1,load,loadCells,cut,zW,mkAgg,trees,nth,lenOf,indexAddr,storeAt,upd,splice,wO,wU,zAm,uM,uL,kA,kB,kE, qU,qZ,qY,qW,kC,kD,qV,qX,uN,qL,Nat.beq,beq_self_eq_true,Nat.zero_add,Nat.add_zero,List.toList_toArray,List.map_cons,List.map_nil,List.length_cons,List.length_nil,List.take,List.drop,List.all_cons,List.all_nil,List.cons_append,List.nil_append,List.append_nil,Bool.and_true,Bool.true_and,Bool.not_true,Bool.not_false,Bool.and_self,if_true,if_false,reduceIte,Nat.reduceAdd,Nat.reduceLeDiff,Nat.reduceEqDiff,Sl.t,Val.c,Slot.c,Tpl.c,Fact.c,Bind.c,Node.c,Test.c,STest.c,Pat.c,intC,and_self,true_and,and_true,zGP,zJc,zEK,binop,zF,zE,zD,uH,zB,vV,zIO];exact rfl))))
 refine zGE (v:=true) (by(simp only[zM,get,lit,lit1,Nat.beq,vI,if_true])) (fun hv=>?_) (fun hv=>?_)
 ·repeat (first|(with_reducible first|apply uX|apply jN|apply zAy|apply zAC|apply uF|apply jI|apply kK|apply jP|apply uD|apply zAz)|(refine zAB (by kernel_rfl) ?_)|(with_reducible first|apply jJ|apply jL|apply kH|apply jO|apply jK|apply zCU|apply zBn|apply zBq|apply zCr|apply zEk|apply zCt|apply zBu)|((with_reducible apply zFb);(focus kernel_rfl);(focus (simp only[beq_true,beq_false,Bool.true_beq,Bool.false_beq,decide_true,decide_false,Int.ofNat_eq_natCast,List.length_map,List.getElem?_map,Option.map_some,xH,wanted,exec1,zAq,uY,xBox,qS,wB,xLen,uQ,wK,xM,uZ,cellsOf,zM,opds,qA,get,putT,ret,retO,lit,lit1,patch,put1,load,loadCells,cut,zW,mkAgg,trees,nth,lenOf,indexAddr,storeAt,upd,splice,wO,wU,zAm,uM,uL,kA,kB,kE, qU,qZ,qY,qW,kC,kD,qV,qX,uN,qL,Nat.beq,beq_self_eq_true,Nat.zero_add,Nat.add_zero,List.toList_toArray,List.map_cons,List.map_nil,List.length_cons,List.length_nil,List.take,List.drop,List.all_cons,List.all_nil,List.cons_append,List.nil_append,List.append_nil,Bool.and_true,Bool.true_and,Bool.not_true,Bool.not_false,Bool.and_self,if_true,if_false,reduceIte,Nat.reduceAdd,Nat.reduceLeDiff,Nat.reduceEqDiff,Sl.t,Val.c,Slot.c,Tpl.c,Fact.c,Bind.c,Node.c,Test.c,STest.c,Pat.c,intC,and_self,true_and,and_true,zF,zE,zD,uH,zB,vV,zIO];exact rfl))))
  exact⟨by kernel_rfl,.t (.sl true true []),by kernel_rfl,by kernel_rfl⟩
 cases hv
def zWo(cl:Bool)(l:List Bind)(hl:l.length<4294967296):Om CC 15 [.t (.sl false cl (l.map Bind.c))] []=some (.val (.hs 0 0),[.arr 4 0 false (l.map Bind.c)]):=by
 refine zK zTN rfl ?_
 (have F_:=xbA;show W CC 0 8 (zA 15) _ ⟨[(0,_)],[]⟩ _)
 repeat (first|(with_reducible first|apply uX|apply jN|apply zAy|apply zAC|apply uF|apply jI|apply kK|apply jP|apply uD|apply zAz)|(refine zAB (by kernel_rfl) ?_)|(with_reducible first|apply jJ|apply jL|apply kH|apply jO|apply jK|apply zCU|apply zBn|apply zBq|apply zCr|apply zEk|apply zCt|apply zBu)|((with_reducible apply zFb);(focus kernel_rfl);(focus (simp only[beq_true,beq_false,Bool.true_beq,Bool.false_beq,decide_true,decide_false,Int.ofNat_eq_natCast,List.length_map,List.getElem?_map,Option.map_some,xH,wanted,exec1,zAq,uY,xBox,qS,wB,xLen,uQ,wK,xM,uZ,cellsOf,zM,opds,qA,get,putT,ret,retO,lit,lit1,patch,put1,load,loadCells,cut,zW,mkAgg,trees,nth,lenOf,indexAddr,storeAt,upd,splice,wO,wU,zAm,uM,uL,kA,kB,kE, qU,qZ,qY,qW,kC,kD,qV,qX,uN,qL,Nat.beq,beq_self_eq_true,Nat.zero_add,Nat.add_zero,List.toList_toArray,List.map_cons,List.map_nil,List.length_cons,List.length_nil,List.take,List.drop,List.all_cons,List.all_nil,List.cons_append,List.nil_append,List.append_nil,Bool.and_true,Bool.true_and,Bool.not_true,Bool.not_false,Bool.and_self,if_true,if_false,reduceIte,Nat.reduceAdd,Nat.reduceLeDiff,Nat.reduceEqDiff,Sl.t,Val.c,Slot.c,Tpl.c,Fact.c,Bind.c,Node.c,Test.c,STest.c,Pat.c,intC,and_self,true_and,and_true,zGP,zJc,zEK,binop,zF,zE,zD,uH,zB,vV,zIO];exact rfl))))
 refine zGE (v:=false) (by(simp only[zM,get,lit,lit1,Nat.beq,vI,if_true])) (fun hv=>?_) (fun hv=>?_)
 ·cases hv
 have hle:lens 4 (l.map Bind.c)=true:=vQ Bind.c 4 (fun a=>rfl) l
 repeat (first|(with_reducible first|apply uX|apply jN|apply zAy|apply zAC|apply uF|apply jI|apply kK|apply jP|apply uD|apply zAz)|(refine zAB (by kernel_rfl) ?_)|(with_reducible first|apply jJ|apply jL|apply kH|apply jO|apply jK|apply zCU|apply zBn|apply zBq|apply zCr|apply zEk|apply zCt|apply zBu)|((with_reducible apply zFb);(focus kernel_rfl);(focus (simp only[beq_true,beq_false,Bool.true_beq,Bool.false_beq,decide_true,decide_false,Int.ofNat_eq_natCast,List.length_map,List.getElem?_map,Option.map_some,xH,wanted,exec1,zAq,uY,xBox,qS,wB,xLen,uQ,wK,xM,uZ,cellsOf,zM,opds,qA,get,putT,ret,retO,lit,lit1,patch,put1,load,loadCells,cut,zW,mkAgg,trees,nth,lenOf,indexAddr,storeAt,upd,splice,wO,wU,zAm,uM,uL,kA,kB,kE, qU,qZ,qY,qW,kC,kD,qV,qX,uN,qL,Nat.beq,beq_self_eq_true,Nat.zero_add,Nat.add_zero,List.toList_toArray,List.map_cons,List.map_nil,List.length_cons,List.length_nil,List.take,List.drop,List.all_cons,List.all_nil,List.cons_append,List.nil_append,List.append_nil,Bool.and_true,Bool.true_and,Bool.not_true,Bool.not_false,Bool.and_self,if_true,if_false,reduceIte,Nat.reduceAdd,Nat.reduceLeDiff,Nat.reduceEqDiff,Sl.t,Val.c,Slot.c,Tpl.c,Fact.c,Bind.c,Node.c,Test.c,STest.c,Pat.c,intC,and_self,true_and,and_true,wI,yV,xV,xV.go,zAp,qG,append,added,elems,hle,hl,List.replicate,List.append_nil,List.nil_append,Nat.not_lt_zero,Nat.zero_mul,decide_true,zF,zE,zD,uH,zB,vV,zIO];exact rfl))))
 exact⟨by kernel_rfl,.hs 0 1,by kernel_rfl,by kernel_rfl⟩
def zWy (ts:Sl Tpl) (f:Fact) (vars:Sl Bind) (h1:ts.l.length<9223372036854775808) (h2:f.s.l.length<9223372036854775808) (h3:vars.l.length<9223372036854775808) :
  ∃b:Bool,Om CC 4 [.t (ts.t Tpl.c),.t (.agg f.c),.t (vars.t Bind.c)] []=some (.val (.t (.bool b)),[])∧True:=by
 refine zJ yGy rfl ?_;obtain⟨tnl,tcl,tl⟩:=ts;obtain⟨fid,ftp,⟨fnl,fcl,fl⟩⟩:=f;obtain⟨vnl,vcl,vl⟩:=vars;dsimp only at h1 h2 h3;have h1:=Hid.mk h1;have h2:=Hid.mk h2;have h3:=Hid.mk h3
 (have F_:=c5 zF zG zE zD (c5 zCS xE zCP uH (c5 zBw zBA zB vV (c2 zBz yHZ)));show W CC 0 70 (zA 4) _ ⟨[(0,_),(1,_),(2,_)],[]⟩ _)
 (repeat' first|refine gA ?_|refine gT ?_ ?_<;>intro hv<;>try cases hv;done|fail)
 refine zY (α:=Nat×Int) (fun a=>⟨[(0,.t (.sl tnl tcl (tl.map Tpl.c))),(2,.t (.sl vnl vcl (vl.map Bind.c))),(4,.box 0 0),(7,.t (.int .i64 a.2)),(12,.t (.int .i64 tl.length)),(13,.t (.int .i64 a.1))],[.box [.t (.int .i64 fid),.t (.int .i64 ftp),.t (.sl fnl fcl (fl.map Val.c))]]⟩)
  (fun a=>tl.length - a.1) (fun a=>a.1≤tl.length) (0,0) (by exact aTd) (Nat.zero_le _) ?_
 rintro⟨i,n⟩ hi;dsimp only at hi
 by_cases hi':i<tl.length
 ·have hw:=wI64 i (by have:=h1.h;omega);have he:tl[i]?=some tl[i]:=List.getElem?_eq_getElem hi';have hd:decide ((i:Int)<tl.length)=true:=by simpa using hi'
  generalize tl[i]=x at he;obtain⟨xn,⟨xnl,xcl,xl⟩⟩:=x
  (repeat' first|refine gA ?_|refine gT ?_ ?_<;>intro hv<;>try cases hv;done|fail)
  refine zC (i+1,?_) (by dsimp only;omega) (by dsimp only;omega) ?_
  rotate_left
  exact aTd
 have hd:decide ((i:Int)<tl.length)=false:=by simpa using hi'
 clear hi hi'
 (repeat' first|refine gA ?_|refine gT ?_ ?_<;>intro hv<;>try cases hv;done|fail)
 refine zY (α:=Nat×Int) (fun a=>⟨[(2,.t (.sl vnl vcl (vl.map Bind.c))),(4,.box 0 0),(7,.t (.int .i64 a.2)),(28,.t (.int .i64 fl.length)),(29,.t (.int .i64 a.1))],[.box [.t (.int .i64 fid),.t (.int .i64 ftp),.t (.sl fnl fcl (fl.map Val.c))]]⟩)
  (fun a=>fl.length - a.1) (fun a=>a.1≤fl.length) (0,n) (by exact aTd) (Nat.zero_le _) ?_
 clear hd;rintro⟨i,n⟩ hi;dsimp only at hi
 by_cases hi':i<fl.length
 ·have hw:=wI64 i (by have:=h2.h;omega);have he:fl[i]?=some fl[i]:=List.getElem?_eq_getElem hi';have hd:decide ((i:Int)<fl.length)=true:=by simpa using hi'
  generalize fl[i]=x at he;obtain⟨xk,xn,xs⟩:=x
  (repeat' first|refine gA ?_|refine gT ?_ ?_<;>intro hv<;>try cases hv;done|fail)
  refine zC (i+1,?_) (by dsimp only;omega) (by dsimp only;omega) ?_
  rotate_left
  exact aTd
 have hd:decide ((i:Int)<fl.length)=false:=by simpa using hi'
 clear hi hi'
 (repeat' first|refine gA ?_|refine gT ?_ ?_<;>intro hv<;>try cases hv;done|fail)
 refine zY (α:=Nat×Int) (fun a=>⟨[(2,.t (.sl vnl vcl (vl.map Bind.c))),(4,.box 0 0),(7,.t (.int .i64 a.2)),(43,.t (.int .i64 vl.length)),(44,.t (.int .i64 a.1))],[.box [.t (.int .i64 fid),.t (.int .i64 ftp),.t (.sl fnl fcl (fl.map Val.c))]]⟩)
  (fun a=>vl.length - a.1) (fun a=>a.1≤vl.length) (0,n) (by exact aTd) (Nat.zero_le _) ?_
 clear hd;rintro⟨i,n⟩ hi;dsimp only at hi
 by_cases hi':i<vl.length
 ·have hw:=wI64 i (by have:=h3.h;omega);have he:vl[i]?=some vl[i]:=List.getElem?_eq_getElem hi';have hd:decide ((i:Int)<vl.length)=true:=by simpa using hi'
  generalize vl[i]=x at he;obtain⟨xn,⟨xk,xm,xs⟩⟩:=x
  (repeat' first|refine gA ?_|refine gT ?_ ?_<;>intro hv<;>try cases hv;done|fail)
  refine zC (i+1,?_) (by dsimp only;omega) (by dsimp only;omega) ?_
  rotate_left
  exact aTd
 have hd:decide ((i:Int)<vl.length)=false:=by simpa using hi'
 clear hi hi';rcases Bool.eq_false_or_eq_true (decide (n > 2000)) with hb|hb
 ·(repeat' first|refine gA ?_|refine gT ?_ ?_<;>intro hv<;>try cases hv;done|fail)
  all_goals refine aJ ?_<;>exact⟨_,⟨rfl,rfl⟩,trivial⟩
 rcases Bool.eq_false_or_eq_true (decide ((fl.length:Int) > 20)) with hb'|hb'
 all_goals (repeat' first|refine gA ?_|refine gT ?_ ?_<;>intro hv<;>try cases hv;done|fail)<;>refine aJ ?_<;>exact⟨_,⟨rfl,rfl⟩,trivial⟩
end Go.Ab
