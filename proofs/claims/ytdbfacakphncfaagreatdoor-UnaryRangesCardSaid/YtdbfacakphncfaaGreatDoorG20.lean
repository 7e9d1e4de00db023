/- Lemmas. -/
import Derived.Test.YtdbfacakphncfaaGreatDoorG19
set_option maxRecDepth 1000000
set_option maxHeartbeats 40000000
set_option linter.all false
namespace Go.Ab
open Go.Proofs
attribute [local irreducible] W RW RR
def zF4(n:Int):∃x:Val,Om CC 144 [.t (.int .i64 n)] []=some (.val (.t (.agg [.int .u8 x.k,.int .i64 x.n,.str x.s])),[])∧(R64 n→VOK x):=by
 refine zH yAb rfl ?_
 (have F_:=c5 zF zE zD zC yBb;show W CC 0 5 (zA 144) _ ⟨[(0,_)],[]⟩ _)
 (repeat' first|refine gA ?_|refine gT ?_ ?_<;>intro hv<;>try cases hv;done|fail)
 all_goals refine aM ?_<;>exact⟨⟨_,_,_⟩,⟨rfl,rfl⟩,by exact fun h=>yX _ h⟩
noncomputable def zEP(n:Int):Val:=(zF4 n).choose
def zKn(n:Int):Om CC 144 [.t (.int .i64 n)] []=some (.val (.t (.agg [.int .u8 (zEP n).k,.int .i64 (zEP n).n,.str (zEP n).s])),[]):=(zF4 n).choose_spec.1
def zMl(n:Int):R64 n→VOK (zEP n):=(zF4 n).choose_spec.2
def zZ5(a:Val)(x y:Bool)(ha:VOK a):∃r:Ans,Om CC 141 [.t (.sl x y [[.int .u8 a.k,.int .i64 a.n,.str a.s]])] []=some (.val (.t (.agg [.int .u8 r.v.k,.int .i64 r.v.n,.str r.v.s,.int .i64 r.e])),[])∧AOK r:=by
 refine zH zYw rfl ?_
 (have F_:=c5 zF zN zE zD (c5 zC zQ xI xV (c5 yD7 zOO zD0 zGl (c5 zUG @zB4 @zEQ @zP9 @uZ)));show W CC 0 25 (zA 141) _ ⟨[(0,_)],[]⟩ _)
 obtain⟨f1,hf1,_⟩:=zG9 1 2 [a] x y (by simp);simp only[List.map_cons,List.map_nil,Val.c] at hf1;have hn:=ha.1
 (repeat' first|refine gA ?_|refine gT ?_ ?_<;>intro hv<;>try cases hv;done|fail)
 all_goals refine aM ?_<;>(first|exact⟨⟨a,0⟩,⟨rfl,rfl⟩,ha⟩|exact⟨Told (VNeg a).1 (VNeg a).2,⟨rfl,rfl⟩,zGv _ _ (zTY a)⟩|exact⟨Fail 8,⟨rfl,rfl⟩,zDY _⟩)
def zV3(a b:Val)(x y:Bool)(hb:R64 b.n):∃r:Ans,Om CC 142 [.t (.sl x y [[.int .u8 a.k,.int .i64 a.n,.str a.s],[.int .u8 b.k,.int .i64 b.n,.str b.s]])] []=some (.val (.t (.agg [.int .u8 r.v.k,.int .i64 r.v.n,.str r.v.s,.int .i64 r.e])),[])∧AOK r:=by
 refine zH zYm rfl ?_
 (have F_:=c5 zF zE zD zC (c5 zQ xI xV yAZ (c5 yBf zGl zUm @zEQ (c3 @zKn @uZ @zDA)));show W CC 0 21 (zA 142) _ ⟨[(0,_)],[]⟩ _)
 have hm:=zXL a.n b.n hb
 (repeat' first|refine gA ?_|refine gT ?_ ?_<;>intro hv<;>try cases hv;done|fail)
 all_goals refine aM ?_<;>exact⟨Told (zEP (NMod a.n b.n).1) (NMod a.n b.n).2,⟨rfl,rfl⟩,zGv _ _ (zMl _ (yDx _ _))⟩
def zVj(a:Val)(x y:Bool)(hn:R64 a.n):∃r:Ans,Om CC 134 [.t (.sl x y [[.int .u8 a.k,.int .i64 a.n,.str a.s]])] []=some (.val (.t (.agg [.int .u8 r.v.k,.int .i64 r.v.n,.str r.v.s,.int .i64 r.e])),[])∧AOK r:=by
 refine zH yAB rfl ?_
 (have F_:=c5 zF zE zD zC (c5 zQ xI xV yFa (c5 zGl zUG @zEQ @zP9 @uZ));show W CC 0 10 (zA 134) _ ⟨[(0,_)],[]⟩ _)
 (repeat' first|refine gA ?_|refine gT ?_ ?_<;>intro hv<;>try cases hv;done|fail)
 all_goals refine aM ?_<;>exact⟨Told (VNeg a).1 (VNeg a).2,⟨rfl,rfl⟩,zGv _ _ (zTY a)⟩
def zVt(a:Val)(x y:Bool)(ha:VOK a):∃r:Ans,Om CC 143 [.t (.sl x y [[.int .u8 a.k,.int .i64 a.n,.str a.s]])] []=some (.val (.t (.agg [.int .u8 r.v.k,.int .i64 r.v.n,.str r.v.s,.int .i64 r.e])),[])∧AOK r:=by
 refine zH zZj rfl ?_
 (have F_:=c5 zF zE zD zC (c5 zQ xI xV yGS (c3 zUm @zKn @uZ));show W CC 0 10 (zA 143) _ ⟨[(0,_)],[]⟩ _)
 have hl:R64 (a.s.length:Int):=by have:=ha.2;unfold R64;omega
 (repeat' first|refine gA ?_|refine gT ?_ ?_<;>intro hv<;>try cases hv;done|fail)
 all_goals refine aM ?_<;>exact⟨⟨zEP a.s.length,0⟩,⟨rfl,rfl⟩,zMl _ hl⟩
def zRh(l:List Val)(x y:Bool)(hl:l.length<4294967295)(hr:∀v ∈ l,VOK v):∃r:Ans,Om CC 137 [.t (.sl x y (l.map Val.c))] []=some (.val (.t (.agg [.int .u8 r.v.k,.int .i64 r.v.n,.str r.v.s,.int .i64 r.e])),[])∧AOK r:=by
 refine zH zYK rfl ?_
 (have F_:=c5 zF zE zD zC (c5 zQ xI xV yEJ (c3 zGl yEW @zEQ));show W CC 0 8 (zA 137) _ ⟨[(0,_)],[]⟩ _)
 obtain⟨z,hz,hzp⟩:=zRp l x y hl (fun v hv=>(hr v hv).1);clear hr
 (repeat' first|refine gA ?_|refine gT ?_ ?_<;>intro hv<;>try cases hv;done|fail)
 all_goals refine aM ?_<;>exact⟨Told z.1 z.2,⟨rfl,rfl⟩,zGv _ _ hzp⟩
def zUS(l:List Val)(x y:Bool)(hl:l.length<4294967295)(hr:∀v ∈ l,VOK v):∃r:Ans,Om CC 139 [.t (.sl x y (l.map Val.c))] []=some (.val (.t (.agg [.int .u8 r.v.k,.int .i64 r.v.n,.str r.v.s,.int .i64 r.e])),[])∧AOK r:=by
 refine zH zZw rfl ?_
 (have F_:=c5 zF zE zD zC (c5 zQ xI xV yA3 (c3 zGl yDy @zEQ));show W CC 0 8 (zA 139) _ ⟨[(0,_)],[]⟩ _)
 obtain⟨z,hz,hzp⟩:=zR5 l x y hl (fun v hv=>(hr v hv).1);clear hr
 (repeat' first|refine gA ?_|refine gT ?_ ?_<;>intro hv<;>try cases hv;done|fail)
 all_goals refine aM ?_<;>exact⟨Told z.1 z.2,⟨rfl,rfl⟩,zGv _ _ hzp⟩
def zRG(g:Look)(s:List Nat)(n:Nat)(h:n≤s.length):slice Tryz.prog g 9 (.t (.str s)) none (some (n:Int)) none=some (.t (.str (s.take n))):=by
 unfold slice;rw[zFs];simp;omega
def zH0(a b:List Nat):∃r:Bool,Om CC 161 [.t (.str a),.t (.str b)] []=some (.val (.t (.bool r)),[])∧True:=by
 refine zH zPZ rfl ?_
 (have F_:=c3 zG zD zSO;show W CC 0 18 (zA 161) _ ⟨[(0,_),(1,_)],[]⟩ _)
 by_cases h:b.length≤a.length
 ·have hd:decide ((a.length:Int) ≥ b.length)=true:=by simpa using h
  have hs:=fun g=>zRG g a b.length h
  (have x0_:=@Ab.bound.eq_1;have x1_:=@Ab.bound.eq_2;(repeat' first|refine gA ?_|refine gT ?_ ?_<;>intro hv<;>try cases hv;done|fail);all_goals clear x0_ x1_)
  all_goals refine aM ?_<;>exact⟨_,⟨rfl,rfl⟩,trivial⟩
 have hd:decide ((a.length:Int) ≥ b.length)=false:=by simp;omega
 (repeat' first|refine gA ?_|refine gT ?_ ?_<;>intro hv<;>try cases hv;done|fail)
 all_goals refine aM ?_<;>exact⟨_,⟨rfl,rfl⟩,trivial⟩
noncomputable def zVm(a b:List Nat):Bool:=(zH0 a b).choose
def zPm(a b:List Nat):Om CC 161 [.t (.str a),.t (.str b)] []=some (.val (.t (.bool (zVm a b))),[]):=(zH0 a b).choose_spec.1
def zJf(a:List Nat)(b:List Nat):∃x:Bool,Om CC 107 [.t (.str a),.t (.str b)] []=some (.val (.t (.bool x)),[])∧(True):=by
 refine zH zP3 rfl ?_
 (have F_:=c3 zD zSN (c2 zKK @zPm);show W CC 0 8 (zA 107) _ ⟨[(0,_),(1,_)],[]⟩ _)
 (repeat' first|refine gA ?_|refine gT ?_ ?_<;>intro hv<;>try cases hv;done|fail)
 all_goals refine aM ?_<;>exact⟨_,⟨rfl,rfl⟩,by trivial⟩
noncomputable def zQc(a:List Nat)(b:List Nat):Bool:=(zJf a b).choose
def zQS(a:List Nat)(b:List Nat):Om CC 107 [.t (.str a),.t (.str b)] []=some (.val (.t (.bool (zQc a b))),[]):=(zJf a b).choose_spec.1
def zSq(a b:Val)(x y:Bool):∃r:Ans,Om CC 127 [.t (.sl x y [[.int .u8 a.k,.int .i64 a.n,.str a.s],[.int .u8 b.k,.int .i64 b.n,.str b.s]])] []=some (.val (.t (.agg [.int .u8 r.v.k,.int .i64 r.v.n,.str r.v.s,.int .i64 r.e])),[])∧AOK r:=by
 refine zH zZV rfl ?_
 (have F_:=c5 zF zN zE zD (c5 zC zQ xI xV (c5 yFn zBD zDT @zQS (c3 @qL @uZ @zDA)));show W CC 0 14 (zA 127) _ ⟨[(0,_)],[]⟩ _)
 (repeat' first|refine gA ?_|refine gT ?_ ?_<;>intro hv<;>try cases hv;done|fail)
 all_goals refine aM ?_<;>exact⟨⟨uN (zQc a.s b.s),0⟩,⟨rfl,rfl⟩,zCr _⟩
noncomputable def varA(name:List Nat)(l:List Bind):Ans :=
 match l.findIdx? (fun b=>beqL b.name name) with
 |some i=>Held ((l.map Bind.v).getD i Zero)
 |none=>Fail 11
def zWu{name:List Nat}{l:List Bind}{i:Nat}(hi:i<l.length)(h:beqL l[i].name name=true)(hn:∀j (hj:j<l.length),j<i→beqL l[j].name name=false):varA name l=Held l[i].v:=by
 have:l.findIdx? (fun t=>beqL t.name name)=some i:=by
  rw[List.findIdx?_eq_some_iff_getElem];exact⟨hi,h,fun j hj=>by simp [hn j (by omega) hj]⟩
 unfold varA;rw[this];simp [List.getD,hi]
def zTU{name:List Nat}{l:List Bind}(hn:∀j (hj:j<l.length),beqL l[j].name name=false):varA name l=Fail 11:=by
 have:l.findIdx? (fun t=>beqL t.name name)=none:=by
  rw[List.findIdx?_eq_none_iff];intro x hx;obtain⟨j,hj,rfl⟩:=List.getElem_of_mem hx;exact hn j hj
 unfold varA;rw[this]
noncomputable def jL(op:Int)(v:Val)(name:List Nat)(self:Val)(l:List Bind):Ans×Bool :=
 if op=1 then (Held v,true) else if op=3 then (Held self,true) else if op=2 then (varA name l,true) else (AZero,false)
def yAI (op:Int) (v:Val) (name:List Nat) (kids line col:Tree) (self:Val) (nl cl:Bool) (l:List Bind) (hl:l.length<9223372036854775808) :
  Om CC 82 [.t (.agg [.int .u8 op,.int .u8 v.k,.int .i64 v.n,.str v.s,.str name,kids,line,col]),.t (.agg [.int .u8 self.k,.int .i64 self.n,.str self.s]),.t (.sl nl cl (l.map Bind.c))] []=some (.val (.tup [.t (.agg [.int .u8 (jL op v name self l).1.v.k,.int .i64 (jL op v name self l).1.v.n,.str (jL op v name self l).1.v.s,.int .i64 (jL op v name self l).1.e]),.t (.bool (jL op v name self l).2)]),[]):=by
 refine zV yEQ rfl ?_
 (have F_:=c5 zF zG zE zD (c5 zC zDP zL zQ (c5 zDG zK zM xI (c5 yG8 yGG zD0 @zYT @zB4)));show W CC 0 40 (zA 82) _ ⟨[(0,_),(1,_),(2,_)],[]⟩ _)
 by_cases h1:op=1
 ·subst h1
  (repeat' first|refine gA ?_|refine gT ?_ ?_<;>intro hv<;>try cases hv;done|fail)
  (refine aO ?_ ?_)
  ·rfl
  rfl
 have e1:(op==1)=false:=by simpa using h1
 by_cases h3:op=3
 ·subst h3
  (repeat' first|refine gA ?_|refine gT ?_ ?_<;>intro hv<;>try cases hv;done|fail)
  (refine aO ?_ ?_)
  ·rfl
  rfl
 have e3:(op==3)=false:=by simpa using h3
 by_cases h2:op=2
 ·subst h2;have hL:jL 2 v name self l=(varA name l,true):=by simp [jL]
  rw[hL];clear h1 h3
  (repeat' first|refine gA ?_|refine gT ?_ ?_<;>intro hv<;>try cases hv;done|fail)
  refine zW (α:=Nat) (fun i=>⟨[(3,.box 0 0),(6,.box 1 0),(23,.t (.sl nl cl (l.map Bind.c))),(24,.t (.int .i64 l.length)),(25,.t (.int .i64 i))],[.box [.t (.int .u8 2),.t (.int .u8 v.k),.t (.int .i64 v.n),.t (.str v.s),.t (.str name),.t kids,.t line,.t col],.box (AZero.c.map .t)]⟩) (fun i=>l.length - i)
   (fun i=>i≤l.length∧∀j (hj:j<l.length),j<i→beqL l[j].name name=false) 0 (by kernel_rfl) ⟨Nat.zero_le _,fun j _ hj=>by omega⟩ ?_
  rintro i ⟨hi,hn⟩;simp only[AZero,Zero,Ans.c,List.map_cons,List.map_nil]
  by_cases hi':i<l.length
  ·have hw:=wI64 i (by omega);have he:l[i]?=some l[i]:=List.getElem?_eq_getElem hi';have hd:decide ((i:Int)<l.length)=true:=by simpa using hi'
   cases hb:beqL l[i].name name with
   |true =>
    rw[zWu hi' hb hn];clear hn
    (repeat' first|refine gA ?_|refine gT ?_ ?_<;>intro hv<;>try cases hv;done|fail)
    (refine aO ?_ ?_)
    ·rfl
    rfl
   |false =>
    have hn':∀j (hj:j<l.length),j<i+1→beqL l[j].name name=false:=fun j hj hji=>by
     rcases Nat.lt_or_ge j i with h|h
     ·exact hn j hj h
     obtain rfl:j=i:=by omega
     exact hb
    clear hn
    (repeat' first|refine gA ?_|refine gT ?_ ?_<;>intro hv<;>try cases hv;done|fail)
    refine zB (i+1) (by omega) ⟨by omega,hn'⟩ (by(have X_:=c3 @AZero.eq_1 @Zero.eq_1 @Ans.c.eq_1;exact aTdX))
  have hd:decide ((i:Int)<l.length)=false:=by simpa using hi'
  rw[zTU fun j hj=>hn j hj (by omega)];clear hn
  (repeat' first|refine gA ?_|refine gT ?_ ?_<;>intro hv<;>try cases hv;done|fail)
  (refine aO ?_ ?_)
  ·rfl
  rfl
 have e2:(op==2)=false:=by simpa using h2
 have hL:jL op v name self l=(AZero,false):=by simp [jL,h1,h2,h3]
 rw[hL]
 (repeat' first|refine gA ?_|refine gT ?_ ?_<;>intro hv<;>try cases hv;done|fail)
 (refine aO ?_ ?_)
 ·rfl
 rfl
def u8C(n:Int):List Tree:=[.int .u8 n]
def zJa:∀bs:List Int,vN (bs.map u8C)=some (bs.map fun n=>n.toNat % 256)
 |[]=>rfl
 |b::bs=>by
  have h:=zJa bs
  show (match vN (bs.map u8C) with|some bs=>some (b.toNat % 256::bs)|none=>none)=_
  rw[h];rfl
def zSc(a:Val)(x y:Bool)(ha:VOK a):∃r:Ans,Om CC 145 [.t (.sl x y [[.int .u8 a.k,.int .i64 a.n,.str a.s]])] []=some (.val (.t (.agg [.int .u8 r.v.k,.int .i64 r.v.n,.str r.v.s,.int .i64 r.e])),[])∧AOK r:=by
 refine zH zYZ rfl ?_
 (have F_:=c5 zF zG zE zD (c5 zC zQ zKF xI (c3 xV yC8 @uZ));show W CC 0 35 (zA 145) _ ⟨[(0,_)],[]⟩ _)
 have hs:a.s.length<4294967281:=ha.2;clear ha
 (repeat' first|refine gA ?_|refine gT ?_ ?_<;>intro hv<;>try cases hv;done|fail)
 refine zW (α:=Nat×List Int) (fun q=>⟨[(2,.box 0 0),(3,.hs 1 0),(11,.hs 1 0),(12,.t (.int .i64 a.s.length)),(13,.t (.int .i64 q.1))],[.box (AZero.c.map .t),.arr 1 0 false (q.2.map u8C)]⟩)
  (fun q=>a.s.length - q.1) (fun q=>q.1≤a.s.length∧q.2.length=a.s.length) (0,a.s.map Int.ofNat) ?_ ⟨Nat.zero_le _,by simp⟩ ?_
 ·(simp only[xJ,wJ,F_,tidy,zB0,canon,reach,wG,refs,wS,catMap,depth,renL,ren,renO,sub,sub1,upto,mem,place,fresh,cond_true,Ab.get,nth,List.map,List.zip_cons_cons,List.zip_nil_left,List.zip_nil_right,List.take,List.append_nil,List.nil_append,List.cons_append,Bool.and_true,uO,decide_true,decide_false,reduceIte,Nat.reduceEqDiff,Nat.beq,Sl.t,Val.c,Slot.c,Tpl.c,Fact.c,Bind.c,Node.c,Test.c,STest.c,Pat.c,intC,AZero,Zero,Ans.c,byteCells,List.length_map,List.map_map,Function.comp_def,u8C,Int.ofNat_eq_natCast]<;>exact rfl)
 rintro⟨i,bs⟩ ⟨hi,hl⟩
 try dsimp only at hi hl
 simp only[AZero,Zero,Ans.c,List.map_cons,List.map_nil]
 by_cases hi':i<a.s.length
 ·have hw:=wI64 i (by omega);have hd:decide ((i:Int)<a.s.length)=true:=by simpa using hi'
  have hi0:(0:Int)≤(i:Int):=by omega
  have hi2:(i:Int)<(a.s.length:Int):=by omega
  have he:nth (bs.map u8C) i=some [.int .u8 (bs[i]'(by omega))]:=by rw[yR];simp [u8C,hl,hi']
  generalize bs[i]'(by omega)=b at he
  (have x0_:=@qR.eq_1;(repeat' first|refine gA ?_|refine gT ?_ ?_<;>intro hv<;>try cases hv;done|fail);all_goals clear x0_)
  ·refine zB (i+1,bs.set i (IntKind.u8.wrap (IntKind.u8.wrap (b - 97)+65))) (by first|omega|(dsimp only;omega)) ⟨by first|omega|(dsimp only;omega),by simp [hl]⟩ (by(have X_:=c5 @AZero.eq_1 @Zero.eq_1 @Ans.c.eq_1 @kH (c2 @mapS @u8C.eq_1);exact aTdX))
  all_goals refine zB (i+1,bs) (by first|omega|(dsimp only;omega)) ⟨by first|omega|(dsimp only;omega),hl⟩ (by(have X_:=c3 @AZero.eq_1 @Zero.eq_1 @Ans.c.eq_1;exact aTdX))
 have hd:decide ((i:Int)<a.s.length)=false:=by simpa using hi'
 have hbo:=zJa bs
 (repeat' first|refine gA ?_|refine gT ?_ ?_<;>intro hv<;>try cases hv;done|fail)
 (refine aM ?_)
 refine⟨⟨⟨3,0,bs.map fun n=>n.toNat % 256⟩,0⟩,⟨rfl,rfl⟩,vU,?_⟩;simp;omega
def zVJ(a b:Val)(x y:Bool)(ha:VOK a):∃r:Ans,Om CC 125 [.t (.sl x y [[.int .u8 a.k,.int .i64 a.n,.str a.s],[.int .u8 b.k,.int .i64 b.n,.str b.s]])] []=some (.val (.t (.agg [.int .u8 r.v.k,.int .i64 r.v.n,.str r.v.s,.int .i64 r.e])),[])∧AOK r:=by
 refine zH zXr rfl ?_
 (have F_:=c5 zF zN zE zD (c5 zC zQ xI xV (c5 yEt yFe zDT @qL (c2 @uZ @zDA)));show W CC 0 14 (zA 125) _ ⟨[(0,_)],[]⟩ _)
 have hs:a.s.length<4294967281:=ha.2;have hh:CC.prim 126 [.t (.str a.s),.t (.str b.s)]=some (.t (.bool (Lib.contains (ub a.s) (ub b.s)))):=by
  rw[zYN]
  show (bif Nat.blt a.s.length 4294967281 then _ else _)=_
  rw[show Nat.blt a.s.length 4294967281=true from by rw[Nat.blt_eq];exact hs];rfl
 clear ha
 (repeat' first|refine gA ?_|refine gT ?_ ?_<;>intro hv<;>try cases hv;done|fail)
 all_goals refine aM ?_<;>exact⟨⟨uN _,0⟩,⟨rfl,rfl⟩,zCr _⟩
def zLS(a b:Val)(ha:VOK a)(hb:VOK b):∃x:Val,Om CC 42 [.t (.sl false false [[.int .u8 a.k,.int .i64 a.n,.str a.s],[.int .u8 b.k,.int .i64 b.n,.str b.s]])] []=some (.val (.t (.agg [.int .u8 x.k,.int .i64 x.n,.str x.s])),[])∧VOK x :=
 zLG [a,b] false false (by simp) (by simp [ha,hb])
open Classical in
noncomputable def All2(a b:Val):Val:=if h:VOK a∧VOK b then (zLS a b h.1 h.2).choose else Zero
def zES(a b:Val)(ha:VOK a)(hb:VOK b):Om CC 42 [.t (.sl false false [[.int .u8 a.k,.int .i64 a.n,.str a.s],[.int .u8 b.k,.int .i64 b.n,.str b.s]])] []=some (.val (.t (.agg [.int .u8 (All2 a b).k,.int .i64 (All2 a b).n,.str (All2 a b).s])),[]):=by
 unfold All2;rw[dif_pos ⟨ha,hb⟩];exact(zLS a b ha hb).choose_spec.1
def zLz(a b:Val)(ha:VOK a)(hb:VOK b):VOK (All2 a b):=by
 unfold All2;rw[dif_pos ⟨ha,hb⟩];exact(zLS a b ha hb).choose_spec.2
def zMa(a b:Val)(ha:VOK a)(hb:VOK b):∃x:Val,Om CC 44 [.t (.sl false false [[.int .u8 a.k,.int .i64 a.n,.str a.s],[.int .u8 b.k,.int .i64 b.n,.str b.s]])] []=some (.val (.t (.agg [.int .u8 x.k,.int .i64 x.n,.str x.s])),[])∧VOK x :=
 zYh [a,b] false false (by simp) (by simp [ha,hb])
open Classical in
noncomputable def Any2(a b:Val):Val:=if h:VOK a∧VOK b then (zMa a b h.1 h.2).choose else Zero
def zEL(a b:Val)(ha:VOK a)(hb:VOK b):Om CC 44 [.t (.sl false false [[.int .u8 a.k,.int .i64 a.n,.str a.s],[.int .u8 b.k,.int .i64 b.n,.str b.s]])] []=some (.val (.t (.agg [.int .u8 (Any2 a b).k,.int .i64 (Any2 a b).n,.str (Any2 a b).s])),[]):=by
 unfold Any2;rw[dif_pos ⟨ha,hb⟩];exact(zMa a b ha hb).choose_spec.1
def zJ8(a b:Val)(ha:VOK a)(hb:VOK b):VOK (Any2 a b):=by
 unfold Any2;rw[dif_pos ⟨ha,hb⟩];exact(zMa a b ha hb).choose_spec.2
def zDb (op:Int) (nl cl nl2 cl2:Bool) (kl:List Ans) (nb:List Bool) (hk:∀a ∈ kl,AOK a) :
  ∃x:Ans×Bool,Om CC 83 [.t (.int .u8 op),.t (.agg [.sl nl cl (kl.map Ans.c),.sl nl2 cl2 (nb.map yS)])] []=some (.val (.tup [.t (.agg [.int .u8 x.1.v.k,.int .i64 x.1.v.n,.str x.1.v.s,.int .i64 x.1.e]),.t (.bool x.2)]),[])∧AOK x.1∧(op=7∨op=8∨op=9∨op=10∨op=11∨op=12→x.2=true∧TB x.1):=by
 refine zH yDl rfl ?_
 (have F_:=c5 zF zG zN zE (c5 zD zC zQ zH8 (c5 zNV jD xI jI (c5 jG zBq yHD yGY (c5 zOX yF3 yBl zST (c2 zNy @zGq)))));show W CC 0 59 (zA 83) _ ⟨[(0,_),(1,_)],[]⟩ _)
 obtain⟨b0,hb0,pb0⟩:=zOq 42 zIG (fun x=>yA _ x (by decide)) All2 zES zLz 0 nl cl nl2 cl2 kl nb hk;obtain⟨b1,hb1,pb1⟩:=zOq 44 zLA (fun x=>yA _ x (by decide)) Any2 zEL zJ8 1 nl cl nl2 cl2 kl nb hk;obtain⟨t0,ht0,pt0⟩:=zFA nl cl nl2 cl2 kl (nb.map yS) 0 hk;have ht0:Om CC 117 [.t (.agg [.sl nl cl (kl.map Ans.c),.sl nl2 cl2 (nb.map yS)]),.t (.int .i64 0)] []=_:=ht0;obtain⟨e1,he1,pe1⟩:=zKT nl cl nl2 cl2 kl nb hk true;obtain⟨e0,he0,pe0⟩:=zKT nl cl nl2 cl2 kl nb hk false;obtain⟨o1,ho1,po1⟩:=zFh 120 yDC (fun x=>yA _ x (by decide)) zXe zU9 nl cl nl2 cl2 kl nb hk;obtain⟨o2,ho2,po2⟩:=zFh 121 yDD (fun x=>yA _ x (by decide)) zWX zVD nl cl nl2 cl2 kl nb hk;obtain⟨o3,ho3,po3⟩:=zFh 122 yGc (fun x=>yA _ x (by decide)) zWM zVZ nl cl nl2 cl2 kl nb hk;obtain⟨o4,ho4,po4⟩:=zFh 123 yBX (fun x=>yA _ x (by decide)) zWD zVG nl cl nl2 cl2 kl nb hk;obtain⟨s5,hs5,ps5⟩:=zFc 125 yDN (fun x=>yA _ x (by decide)) 3 2 (by decide) (fun l x y hl hv=>by
  match l,hl,hv with
  |[a,b],_,hv=>exact zVJ a b x y (hv a (by simp))) nl cl nl2 cl2 kl nb hk
 have hs5:Om CC 124 [.t (.agg [.sl nl cl (kl.map Ans.c),.sl nl2 cl2 (nb.map yS)]),.t (.int .i64 2),.t (.int .u8 3),.t (.fn 125)] []=_:=hs5;obtain⟨s6,hs6,ps6⟩:=zFc 127 yEx (fun x=>yA _ x (by decide)) 3 2 (by decide) (fun l x y hl hv=>by
  match l,hl,hv with
  |[a,b],_,hv=>exact zSq a b x y) nl cl nl2 cl2 kl nb hk
 have hs6:Om CC 124 [.t (.agg [.sl nl cl (kl.map Ans.c),.sl nl2 cl2 (nb.map yS)]),.t (.int .i64 2),.t (.int .u8 3),.t (.fn 127)] []=_:=hs6;have pn:=zGk t0.v;clear hk
 (repeat' first|refine gA ?_|refine gT ?_ ?_<;>intro hv<;>try cases hv;done|fail)
 all_goals refine aM ?_<;>(first|exact⟨(b0,true),⟨rfl,rfl⟩,pb0,fun h=>absurd h (by clear F_;simp only[beq_iff_eq,beq_eq_false_iff_ne] at *;omega)⟩|exact⟨(b1,true),⟨rfl,rfl⟩,pb1,fun h=>absurd h (by clear F_;simp only[beq_iff_eq,beq_eq_false_iff_ne] at *;omega)⟩|exact⟨(⟨NotV t0.v,0⟩,true),⟨rfl,rfl⟩,pn,fun h=>absurd h (by clear F_;simp only[beq_iff_eq,beq_eq_false_iff_ne] at *;omega)⟩|exact⟨(⟨NotV t0.v,t0.e⟩,true),⟨rfl,rfl⟩,pn,fun h=>absurd h (by clear F_;simp only[beq_iff_eq,beq_eq_false_iff_ne] at *;omega)⟩|exact⟨(t0,true),⟨rfl,rfl⟩,pt0,fun h=>absurd h (by clear F_;simp only[beq_iff_eq,beq_eq_false_iff_ne] at *;omega)⟩|exact⟨(e1,true),⟨rfl,rfl⟩,pe1.1,fun _=>⟨rfl,pe1.2⟩⟩|exact⟨(e0,true),⟨rfl,rfl⟩,pe0.1,fun _=>⟨rfl,pe0.2⟩⟩|exact⟨(o1,true),⟨rfl,rfl⟩,po1.1,fun _=>⟨rfl,po1.2⟩⟩|exact⟨(o2,true),⟨rfl,rfl⟩,po2.1,fun _=>⟨rfl,po2.2⟩⟩|exact⟨(o3,true),⟨rfl,rfl⟩,po3.1,fun _=>⟨rfl,po3.2⟩⟩|exact⟨(o4,true),⟨rfl,rfl⟩,po4.1,fun _=>⟨rfl,po4.2⟩⟩|exact⟨(s5,true),⟨rfl,rfl⟩,ps5,fun h=>absurd h (by clear F_;simp only[beq_iff_eq,beq_eq_false_iff_ne] at *;omega)⟩|exact⟨(s6,true),⟨rfl,rfl⟩,ps6,fun h=>absurd h (by clear F_;simp only[beq_iff_eq,beq_eq_false_iff_ne] at *;omega)⟩|exact⟨(AZero,false),⟨rfl,rfl⟩,yU,fun h=>absurd h (by clear F_;simp only[beq_iff_eq,beq_eq_false_iff_ne] at *;omega)⟩)
def zG6 (op:Int) (nl cl nl2 cl2:Bool) (kl:List Ans) (nb:List Bool) (hk:∀a ∈ kl,AOK a) (hl:kl.length<4294967295) :
  ∃x:Ans,Om CC 84 [.t (.int .u8 op),.t (.agg [.sl nl cl (kl.map Ans.c),.sl nl2 cl2 (nb.map yS)])] []=some (.val (.t (.agg [.int .u8 x.v.k,.int .i64 x.v.n,.str x.v.s,.int .i64 x.e])),[])∧AOK x:=by
 refine zH yA2 rfl ?_
 (have F_:=c5 zF zG zN zE (c5 zD zC zQ jD (c5 xI jI jG zBq (c5 zOr yID yEw zIp (c3 zST yEq (c2 zD0 @zB4)))));show W CC 0 61 (zA 84) _ ⟨[(0,_),(1,_)],[]⟩ _)
 obtain⟨a1,h1,p1⟩:=zIW 129 yBn (fun x=>yA _ x (by decide)) (fun a b ha hb=>zV9 a b ha.1 hb.1) nl cl nl2 cl2 kl nb hk;obtain⟨a2,h2,p2⟩:=zIW 130 zUp (fun x=>yA _ x (by decide)) (fun a b ha hb=>zHk a b ha.1 hb.1) nl cl nl2 cl2 kl nb hk;obtain⟨a3,h3,p3⟩:=zIW 131 yDJ (fun x=>yA _ x (by decide)) (fun a b ha hb=>zVL a b ha.1 hb.1) nl cl nl2 cl2 kl nb hk;obtain⟨a4,h4,p4⟩:=zIW 132 yGd (fun x=>yA _ x (by decide)) (fun a b ha hb=>zVp a b ha.1 hb.1) nl cl nl2 cl2 kl nb hk;obtain⟨a5,h5,p5⟩:=zFR 134 yDh (fun x=>yA _ x (by decide)) nl cl nl2 cl2 kl (nb.map yS) 1 (by decide) hk (fun l x y hl hv=>by
  match l,hl,hv with
  |[a],_,hv=>exact zVj a x y (hv a (by simp)).1)
 have h5:Om CC 133 [.t (.agg [.sl nl cl (kl.map Ans.c),.sl nl2 cl2 (nb.map yS)]),.t (.int .i64 1),.t (.fn 134)] []=_:=h5;obtain⟨a6,h6,p6⟩:=zFR 137 yCX (fun x=>yA _ x (by decide)) nl cl nl2 cl2 kl (nb.map yS) kl.length hl hk (fun l x y hl' hv=>zRh l x y (by omega) hv);obtain⟨a7,h7,p7⟩:=zFR 139 yCx (fun x=>yA _ x (by decide)) nl cl nl2 cl2 kl (nb.map yS) kl.length hl hk (fun l x y hl' hv=>zUS l x y (by omega) hv);obtain⟨a8,h8,p8⟩:=zFR 141 yCP (fun x=>yA _ x (by decide)) nl cl nl2 cl2 kl (nb.map yS) 1 (by decide) hk (fun l x y hl hv=>by
  match l,hl,hv with
  |[a],_,hv=>exact zZ5 a x y (hv a (by simp)))
 have h8:Om CC 133 [.t (.agg [.sl nl cl (kl.map Ans.c),.sl nl2 cl2 (nb.map yS)]),.t (.int .i64 1),.t (.fn 141)] []=_:=h8;obtain⟨a9,h9,p9⟩:=zFc 142 yGs (fun x=>yA _ x (by decide)) 1 2 (by decide) (fun l x y hl hv=>by
  match l,hl,hv with
  |[a,b],_,hv=>exact zV3 a b x y (hv b (by simp)).1) nl cl nl2 cl2 kl nb hk
 have h9:Om CC 124 [.t (.agg [.sl nl cl (kl.map Ans.c),.sl nl2 cl2 (nb.map yS)]),.t (.int .i64 2),.t (.int .u8 1),.t (.fn 142)] []=_:=h9;obtain⟨a10,h10,p10⟩:=zFc 143 yCK (fun x=>yA _ x (by decide)) 3 1 (by decide) (fun l x y hl hv=>by
  match l,hl,hv with
  |[a],_,hv=>exact zVt a x y (hv a (by simp))) nl cl nl2 cl2 kl nb hk
 have h10:Om CC 124 [.t (.agg [.sl nl cl (kl.map Ans.c),.sl nl2 cl2 (nb.map yS)]),.t (.int .i64 1),.t (.int .u8 3),.t (.fn 143)] []=_:=h10;obtain⟨a11,h11,p11⟩:=zFc 145 yGx (fun x=>yA _ x (by decide)) 3 1 (by decide) (fun l x y hl hv=>by
  match l,hl,hv with
  |[a],_,hv=>exact zSc a x y (hv a (by simp))) nl cl nl2 cl2 kl nb hk
 have h11:Om CC 124 [.t (.agg [.sl nl cl (kl.map Ans.c),.sl nl2 cl2 (nb.map yS)]),.t (.int .i64 1),.t (.int .u8 3),.t (.fn 145)] []=_:=h11;obtain⟨a12,h12,p12⟩:=zQ7 nl cl nl2 cl2 kl (nb.map yS) hk;clear hk
 (repeat' first|refine gA ?_|refine gT ?_ ?_<;>intro hv<;>try cases hv;done|fail)
 all_goals refine aM ?_<;>(first|exact⟨a1,⟨rfl,rfl⟩,p1⟩|exact⟨a2,⟨rfl,rfl⟩,p2⟩|exact⟨a3,⟨rfl,rfl⟩,p3⟩|exact⟨a4,⟨rfl,rfl⟩,p4⟩|exact⟨a5,⟨rfl,rfl⟩,p5⟩|exact⟨a6,⟨rfl,rfl⟩,p6⟩|exact⟨a7,⟨rfl,rfl⟩,p7⟩|exact⟨a8,⟨rfl,rfl⟩,p8⟩|exact⟨a9,⟨rfl,rfl⟩,p9⟩|exact⟨a10,⟨rfl,rfl⟩,p10⟩|exact⟨a11,⟨rfl,rfl⟩,p11⟩|exact⟨a12,⟨rfl,rfl⟩,p12⟩|exact⟨Fail 2,⟨rfl,rfl⟩,zDY _⟩)
open Classical in
noncomputable def uR(op:Int)(kl:List Ans)(nb:List Bool):Ans×Bool :=
 if h:∀a ∈ kl,AOK a then (zDb op kl.isEmpty kl.isEmpty kl.isEmpty kl.isEmpty kl nb h).choose else (AZero,false)
open Classical in
noncomputable def zAx(op:Int)(kl:List Ans)(nb:List Bool):Ans :=
 if h:(∀a ∈ kl,AOK a)∧kl.length<4294967295 then (zG6 op kl.isEmpty kl.isEmpty kl.isEmpty kl.isEmpty kl nb h.1 h.2).choose else AZero
def zMy (op:Int) (kl:List Ans) (nb:List Bool) (b:Bool) (hb:kl.isEmpty=b) (h:∀a ∈ kl,AOK a) :
  Om CC 83 [.t (.int .u8 op),.t (.agg [.sl b b (kl.map Ans.c),.sl b b (nb.map yS)])] []=some (.val (.tup [.t (.agg [.int .u8 (uR op kl nb).1.v.k,.int .i64 (uR op kl nb).1.v.n,.str (uR op kl nb).1.v.s,.int .i64 (uR op kl nb).1.e]),.t (.bool (uR op kl nb).2)]),[]):=by
 subst hb;unfold uR;rw[dif_pos h];exact(zDb op _ _ _ _ kl nb h).choose_spec.1
def zVk(op:Int)(kl:List Ans)(nb:List Bool):AOK (uR op kl nb).1:=by
 unfold uR;split
 ·rename_i h;exact(zDb op _ _ _ _ kl nb h).choose_spec.2.1
 exact yU
def zV8(op:Int)(kl:List Ans)(nb:List Bool)(ho:op=7∨op=8∨op=9∨op=10∨op=11∨op=12):TB (if (uR op kl nb).2 then (uR op kl nb).1 else zAx op kl nb):=by
 by_cases h:∀a ∈ kl,AOK a
 ·have:=(zDb op kl.isEmpty kl.isEmpty kl.isEmpty kl.isEmpty kl nb h).choose_spec.2.2 ho;have e:uR op kl nb=(zDb op kl.isEmpty kl.isEmpty kl.isEmpty kl.isEmpty kl nb h).choose:=by unfold uR;rw[dif_pos h]
  rw[e,this.1,if_pos rfl];exact this.2
 have e:uR op kl nb=(AZero,false):=by unfold uR;rw[dif_neg h]
 have e2:zAx op kl nb=AZero:=by unfold zAx;rw[dif_neg (fun x=>h x.1)]
 rw[e,e2];exact zB2
def zME (op:Int) (kl:List Ans) (nb:List Bool) (b:Bool) (hb:kl.isEmpty=b) (h:∀a ∈ kl,AOK a) (hl:kl.length<4294967295) :
  Om CC 84 [.t (.int .u8 op),.t (.agg [.sl b b (kl.map Ans.c),.sl b b (nb.map yS)])] []=some (.val (.t (.agg [.int .u8 (zAx op kl nb).v.k,.int .i64 (zAx op kl nb).v.n,.str (zAx op kl nb).v.s,.int .i64 (zAx op kl nb).e])),[]):=by
 subst hb;unfold zAx;rw[dif_pos ⟨h,hl⟩];exact(zG6 op _ _ _ _ kl nb h hl).choose_spec.1
def zWf(op:Int)(kl:List Ans)(nb:List Bool):AOK (zAx op kl nb):=by
 unfold zAx;split
 ·rename_i h;exact(zG6 op _ _ _ _ kl nb h.1 h.2).choose_spec.2
 exact yU
def yEr(name:List Nat)(l:List Bind)(h:∀b ∈ l,VOK b.v):AOK (varA name l):=by
 unfold varA;split
 ·rename_i i hi;refine zOa _ ?_;rw[List.getD_eq_getElem?_getD];cases hi':(l.map Bind.v)[i]? with
  |none=>exact yU
  |some v =>
   obtain⟨b,hb,rfl⟩:=List.mem_map.1 (List.mem_of_getElem? hi');exact h b hb
 exact zDY _
def yAa(op:Int)(v:Val)(name:List Nat)(self:Val)(l:List Bind)(hv:VOK v)(hs:VOK self)(h:∀b ∈ l,VOK b.v):AOK (jL op v name self l).1:=by
 unfold jL;split
 ·exact zOa _ hv
 split
 ·exact zOa _ hs
 split
 ·exact yEr _ _ h
 exact yU
def SNode.nul(x:SNode):Bool:=x.op==1&&x.v.k==0
noncomputable def kidA(al:List Ans)(ns:List SNode)(at_:Int):Ans×Bool :=
 if at_<0∨at_ ≥ al.length then (AZero,false) else (getA al at_.toNat,match ns[at_.toNat]? with
  |some x=>x.nul
  |none=>false)
noncomputable def zFf(al:List Ans)(ns:List SNode)(x:SNode)(self:Val)(vars:List Bind):Ans :=
 if (jL x.op x.v x.name self vars).2 then (jL x.op x.v x.name self vars).1
 else if (uR x.op (x.kids.map fun k=>(kidA al ns k).1) (x.kids.map fun k=>(kidA al ns k).2)).2 then (uR x.op (x.kids.map fun k=>(kidA al ns k).1) (x.kids.map fun k=>(kidA al ns k).2)).1
 else zAx x.op (x.kids.map fun k=>(kidA al ns k).1) (x.kids.map fun k=>(kidA al ns k).2)
noncomputable def vM(ns:List SNode)(self:Val)(vars:List Bind):Nat→List Ans
 |0=>[]
 |i+1=>vM ns self vars i++[match ns[i]? with
  |some x=>zFf (vM ns self vars i) ns x self vars
  |none=>AZero]
noncomputable def zGO(l:List Ans):Ans:=l.getLast?.getD AZero
noncomputable def uD(ns:List SNode)(self:Val)(vars:List Bind):Ans:=zGO (vM ns self vars ns.length)
def uA(ns:List SNode)(self:Val)(vars:List Bind):∀i,(vM ns self vars i).length=i
 |0=>rfl
 |i+1=>by simp [vM,uA ns self vars i]
def yEP(al:List Ans)(ns:List SNode)(k:Int)(h:∀a ∈ al,AOK a):AOK (kidA al ns k).1:=by
 unfold kidA;split
 ·exact yU
 exact zBF h _
def yAG(al:List Ans)(ns:List SNode)(x:SNode)(self:Val)(vars:List Bind)(hx:VOK x.v)(hs:VOK self)(hv:∀b ∈ vars,VOK b.v):AOK (zFf al ns x self vars):=by
 unfold zFf;split
 ·exact yAa _ _ _ _ _ hx hs hv
 split
 ·exact zVk _ _ _
 exact zWf _ _ _
def zLI(ns:List SNode)(self:Val)(vars:List Bind)(hn:∀x ∈ ns,VOK x.v)(hs:VOK self)(hv:∀b ∈ vars,VOK b.v):∀i,∀a ∈ vM ns self vars i,AOK a
 |0,a,h=>by cases h
 |i+1,a,h=>by
  rcases List.mem_append.1 h with h|h
  ·exact zLI ns self vars hn hs hv i a h
  rw[List.mem_singleton.1 h];cases hx:ns[i]? with
  |none=>exact yU
  |some x=>exact yAG _ _ _ _ _ (hn x (List.mem_of_getElem? hx)) hs hv
def yAq(l:List Ans)(h:∀a ∈ l,AOK a):AOK (zGO l):=by
 unfold zGO;cases hl:l.getLast? with
 |none=>exact yU
 |some a=>exact h a (List.mem_of_getLast? hl)
def zKq(l:List Ans)(a:Ans):zGO (l++[a])=a:=by simp [zGO]
def zGV(ts:List Tree):∀n,vO (List.replicate n (ts.map AV.t))=some (List.replicate n ts)
 |0=>rfl
 |n+1=>by
  have h:∀l:List Tree,trees (l.map AV.t)=some l:=fun l=>by
   induction l with
   |nil=>rfl
   |cons a l ih=>simp [trees,ih]
  simp only[List.replicate_succ,vO,h,zGV ts n]
def zUy(ts:List Tree)(s n:Nat):zAj s (List.replicate n (ts.map AV.t))=.arr s 0 false (List.replicate n ts):=by
 unfold zAj;rw[zGV]
def zVN (T:Sl Node) (self:Val) (vnl vcl:Bool) (vars:List Bind) (hT:T.l.length<4294967295) (hK:∀x ∈ T.l,x.kids.l.length<4294967295) (hvl:vars.length<9223372036854775808)
  (hnv:∀x ∈ T.l,VOK x.v) (hsv:VOK self) (hvv:∀b ∈ vars,VOK b.v) :
  Om CC 39 [.t (.sl T.nl T.cl (T.l.map Node.c)),.t (.agg [.int .u8 self.k,.int .i64 self.n,.str self.s]),.t (.sl vnl vcl (vars.map Bind.c))] [] =
   some (.val (.tup [.t (.agg [.int .u8 (uD (T.l.map Node.s) self vars).v.k,.int .i64 (uD (T.l.map Node.s) self vars).v.n,.str (uD (T.l.map Node.s) self vars).v.s]),.t (.int .i64 (uD (T.l.map Node.s) self vars).e)]),[]):=by
 refine zV yEu rfl ?_
 (have F_:=c5 zF zG zN zE (c5 zD zC zDP zT (c5 zL zQ zDG zK (c5 zM jD xI jI (c5 jG yHE yJi yHb yI0))));show W CC 0 114 (zA 39) _ ⟨[(0,_),(1,_),(2,_)],[]⟩ _)
 have hmk:decide (T.l.length<4294967296)=true:=by simp;omega
 have hrep:=zUy AZero.c 4 T.l.length;simp only[AZero,Zero,Ans.c,List.map_cons,List.map_nil] at hrep;have hev:=zLI (T.l.map Node.s) self vars (fun x hx=>by obtain⟨y,hy,rfl⟩:=List.mem_map.1 hx;exact hnv y hy) hsv hvv;have htl:vO (List.replicate T.l.length [.t (.int .u8 0),.t (.int .i64 0),.t (.str []),.t (.int .i64 0)])=some (List.replicate T.l.length AZero.c):=zGV AZero.c T.l.length
 repeat' (first|(with_reducible first|apply aA|apply jQ|apply zAS|apply zBu|apply zBt|apply kS|apply zAQ|apply zAw|apply zAL|apply kU|apply zBj)|(refine zBz (by kernel_rfl) ?_)|(with_reducible first|apply zAK|apply zAP|apply zAy|apply zAM|apply zAR|apply zBg|apply zCF|apply zCJ|apply zEg|apply zFo|apply zEc|apply zCC)|((with_reducible apply zRO);(focus kernel_rfl))|((with_reducible apply zQ1);(focus kernel_rfl);(focus kernel_rfl))|(with_reducible first|apply zIL|apply zIF)|((with_reducible apply zIY);(refine⟨by kernel_rfl,?_⟩))|((with_reducible refine zKZ (fun hg=>?_) (fun hg=>?_))<;>first|(cases hg;done)|skip)|((with_reducible refine zLk (fun hg=>?_) (fun hg=>?_))<;>first|(cases hg;done)|skip)|((with_reducible refine zNh (fun hg=>?_) (fun hg=>?_))<;>first|(cases hg;done)|skip)|((with_reducible refine zNn (fun hg=>?_) (fun hg=>?_))<;>first|(cases hg;done)|skip)|((with_reducible apply zRs);(focus (simp only[kR,yF,Nat.le_refl,true_or,beq_true,beq_false,Bool.true_beq,Bool.false_beq,decide_true,decide_false,Int.ofNat_eq_natCast,List.length_map,List.getElem?_map,Option.map_some,wanted,exec1,zAr,qE,xBox,qO,wB,xLen,uT,wN,xH,qD,cellsOf,zJ,opds,qG,get,putT,ret,retO,lit,lit1,patch,put1,load,loadCells,cut,yB,mkAgg,trees,nth,lenOf,indexAddr,storeAt,upd,splice,wP,wU,zAm,uI,uG,kK,kJ,kO,vG,vI,uH,convert,kC,qU,kF,qV,zAc,qT,qW,qS,kE,kB,kA,vY,kI,kM,qZ,qX,kN,qY,kL,kG,uL,qI,Nat.beq,beq_self_eq_true,Nat.zero_add,Nat.add_zero,List.toList_toArray,List.map_cons,List.map_nil,List.length_cons,List.length_nil,List.take,List.drop,List.all_cons,List.all_nil,List.cons_append,List.nil_append,List.append_nil,Bool.and_true,Bool.true_and,Bool.not_true,Bool.not_false,Bool.and_self,if_true,if_false,reduceIte,Nat.reduceAdd,Nat.reduceLeDiff,Nat.reduceEqDiff,Sl.t,Val.c,Slot.c,Tpl.c,Fact.c,Bind.c,Node.c,Test.c,STest.c,Pat.c,intC,and_self,true_and,and_true,b00,b01,b02,b03,b04,b10,b11,b12,b13,b14,b20,b21,b22,b23,b24,b30,b31,b32,b33,b34,b40,b41,b42,b43,b44,qN,wQ,reach,wG,refs,wS,catMap,depth,sub,sub1,renL,ren,renO,mem,place,fresh,xB,plain,jX,back,zAV,zAv,wF,Way.id,Way.ver,wM,zAG,getN,view,yK,yV,zAe,yA,ne_eq,not_false_eq_true,cond_true,cond_false,jV,Option.getD_some,elems,yF,xN,yQ,xC,xC.go,zAj,vO,setN,List.replicate,Nat.mul_one,Nat.reduceMul,Nat.reduceLT,append,added,lens,uV,zAA,zAT,zCt,zBx,mfind,uQ,kP,UInt8.reduceToNat,zAg,Ab.bound,Int.toNat_natCast,bne_self_eq_false,true_or,Nat.reduceLT,one1,kD,deferred,qA,yG,jW,uS,jZ,vW,vB,wH,zAt,zAD,zBi,zBh,vC,Bool.or_true,Bool.or_false,Bool.true_or,Bool.false_or,F_, *];exact rfl)))|((with_reducible apply zRt);(focus (simp only[kR,yF,Nat.le_refl,true_or,beq_true,beq_false,Bool.true_beq,Bool.false_beq,decide_true,decide_false,Int.ofNat_eq_natCast,List.length_map,List.getElem?_map,Option.map_some,wanted,exec1,zAr,qE,xBox,qO,wB,xLen,uT,wN,xH,qD,cellsOf,zJ,opds,qG,get,putT,ret,retO,lit,lit1,patch,put1,load,loadCells,cut,yB,mkAgg,trees,nth,lenOf,indexAddr,storeAt,upd,splice,wP,wU,zAm,uI,uG,kK,kJ,kO,vG,vI,uH,convert,kC,qU,kF,qV,zAc,qT,qW,qS,kE,kB,kA,vY,kI,kM,qZ,qX,kN,qY,kL,kG,uL,qI,Nat.beq,beq_self_eq_true,Nat.zero_add,Nat.add_zero,List.toList_toArray,List.map_cons,List.map_nil,List.length_cons,List.length_nil,List.take,List.drop,List.all_cons,List.all_nil,List.cons_append,List.nil_append,List.append_nil,Bool.and_true,Bool.true_and,Bool.not_true,Bool.not_false,Bool.and_self,if_true,if_false,reduceIte,Nat.reduceAdd,Nat.reduceLeDiff,Nat.reduceEqDiff,Sl.t,Val.c,Slot.c,Tpl.c,Fact.c,Bind.c,Node.c,Test.c,STest.c,Pat.c,intC,and_self,true_and,and_true,b00,b01,b02,b03,b04,b10,b11,b12,b13,b14,b20,b21,b22,b23,b24,b30,b31,b32,b33,b34,b40,b41,b42,b43,b44,qN,wQ,reach,wG,refs,wS,catMap,depth,sub,sub1,renL,ren,renO,mem,place,fresh,xB,plain,jX,back,zAV,zAv,wF,Way.id,Way.ver,wM,zAG,getN,view,yK,yV,zAe,yA,ne_eq,not_false_eq_true,cond_true,cond_false,jV,Option.getD_some,elems,yF,xN,yQ,xC,xC.go,zAj,vO,setN,List.replicate,Nat.mul_one,Nat.reduceMul,Nat.reduceLT,append,added,lens,uV,zDS,zEq,zEH,vD,foot,zFy,names,kT,zG7,zFn,mfind,uQ,kP,UInt8.reduceToNat,zAg,Ab.bound,Int.toNat_natCast,bne_self_eq_false,true_or,Nat.reduceLT,one1,kD,deferred,qA,yG,jW,uS,jZ,vW,vB,wH,zAt,zAD,zBi,zBh,vC,Bool.or_true,Bool.or_false,Bool.true_or,Bool.false_or,F_, *];exact rfl)))|((refine zGp (by(simp only[zJ,get,lit,lit1,Nat.beq, *];exact rfl)) (fun hv=>?_) (fun hv=>?_))<;>first|(cases hv;done)|skip))
 refine zW (α:=Nat×List Ans×Ans) (fun a=>⟨[(0,.t (.sl T.nl T.cl (T.l.map Node.c))),(2,.t (.sl vnl vcl (vars.map Bind.c))),(4,.box 0 0),(6,.box 1 0),(8,.hs 2 0),(9,.box 3 0),(20,.t (.sl T.nl T.cl (T.l.map Node.c))),(21,.t (.int .i64 T.l.length)),(22,.t (.int .i64 a.1))],
   [.box [.t (.int .u8 self.k),.t (.int .i64 self.n),.t (.str self.s)],.box (Zero.c.map .t),.arr 4 0 false (a.2.1.map Ans.c),.box (a.2.2.c.map .t)]⟩)
  (fun a=>T.l.length - a.1) (fun a=>a.1≤T.l.length∧a.2.1=vM (T.l.map Node.s) self vars a.1++List.replicate (T.l.length - a.1) AZero∧a.2.2=zGO (vM (T.l.map Node.s) self vars a.1))
  (0,List.replicate T.l.length AZero,AZero) (by(simp only[xJ,wJ,F_,tidy,zB0,canon,reach,wG,refs,wS,catMap,depth,renL,ren,renO,sub,sub1,upto,mem,place,fresh,cond_true,Ab.get,nth,List.map,List.zip_cons_cons,List.zip_nil_left,List.zip_nil_right,List.take,List.append_nil,List.nil_append,List.cons_append,Bool.and_true,uO,decide_true,decide_false,reduceIte,Nat.reduceEqDiff,Nat.beq,Sl.t,Val.c,Slot.c,Tpl.c,Fact.c,Bind.c,Node.c,Test.c,STest.c,Pat.c,intC,AZero,Zero,Ans.c,List.map_replicate]<;>exact rfl)) ⟨Nat.zero_le _,by simp [vM],rfl⟩ ?_
 rintro⟨i,all,last⟩ ⟨hi,hall,hlast⟩
 try dsimp only at hi hall hlast
 simp only[Zero,List.map_cons,List.map_nil,Val.c];have hall':all.length=T.l.length:=by rw[hall];simp [uA];omega
 by_cases hi':i<T.l.length
 ·have hw:=wI64 i (by omega);have he:T.l[i]?=some T.l[i]:=List.getElem?_eq_getElem hi';have hd:decide ((i:Int)<T.l.length)=true:=by simpa using hi'
  have hkl:=hK T.l[i] (List.getElem_mem hi');have hns:(T.l.map Node.s)[i]?=some T.l[i].s:=by rw[List.getElem?_map,he];rfl
  have hnx:=hnv T.l[i] (List.getElem_mem hi');generalize T.l[i]=x at he hkl hns hnx;clear hmk hrep;have hall2:Hid _:=⟨hall⟩
  have hlast2:Hid _:=⟨hlast⟩
  clear hall hlast
  (repeat' first|refine gA ?_|refine gT ?_ ?_<;>intro hv<;>try cases hv;done|fail)
  refine zW (α:=Nat×Bool×List Ans×List Bool) (fun a=>⟨[(0,.t (.sl T.nl T.cl (T.l.map Node.c))),(2,.t (.sl vnl vcl (vars.map Bind.c))),(4,.box 0 0),(6,.box 1 0),(8,.hs 2 0),(9,.box 3 0),(10,.t (.int .i64 (i:Int))),(11,.box 4 0),(12,.box 5 0),(20,.t (.sl T.nl T.cl (T.l.map Node.c))),(21,.t (.int .i64 T.l.length)),(22,.t (.int .i64 i)),(28,.t (.sl x.kids.nl x.kids.cl (x.kids.l.map intC))),(29,.t (.int .i64 x.kids.l.length)),(30,.t (.int .i64 a.1))],
   match a.2.1 with
   |true=>[.box [.t (.int .u8 self.k),.t (.int .i64 self.n),.t (.str self.s)],.box (Zero.c.map .t),.arr 4 0 false (all.map Ans.c),.box (last.c.map .t),.box ((Node.c x).map .t),.box [.hs 6 0,.hs 7 0],.arr 4 0 false (a.2.2.1.map Ans.c),.arr 1 0 false (a.2.2.2.map yS)]
   |false=>[.box [.t (.int .u8 self.k),.t (.int .i64 self.n),.t (.str self.s)],.box (Zero.c.map .t),.arr 4 0 false (all.map Ans.c),.box (last.c.map .t),.box ((Node.c x).map .t),.box [.t (.sl true true []),.t (.sl true true [])]]⟩)
   (fun a=>x.kids.l.length - a.1) (fun a=>a.1≤x.kids.l.length∧a.2.1=decide (0<a.1)∧a.2.2.1=(x.kids.l.take a.1).map (fun k=>(kidA (vM (T.l.map Node.s) self vars i) (T.l.map Node.s) k).1)∧a.2.2.2=(x.kids.l.take a.1).map (fun k=>(kidA (vM (T.l.map Node.s) self vars i) (T.l.map Node.s) k).2))
   (0,false,[],[]) (by(have X_:=c2 @Zero.eq_1 @Ans.c.eq_1;exact aTdX)) ⟨Nat.zero_le _,rfl,rfl,rfl⟩ ?_
  rintro⟨j,st,kl,nb⟩ ⟨hj,hst,hkls,hnbs⟩
  try dsimp only at hj hst hkls hnbs
  simp only[Zero,List.map_cons,List.map_nil,Val.c]
  by_cases hj':j<x.kids.l.length
  ·have hwj:=wI64 j (by omega);have hej:x.kids.l[j]?=some x.kids.l[j]:=List.getElem?_eq_getElem hj';have hdj:decide ((j:Int)<x.kids.l.length)=true:=by simpa using hj'
   have htk:x.kids.l.take (j+1)=x.kids.l.take j++[x.kids.l[j]]:=by rw[List.take_add_one,hej];rfl
   have hklen:kl.length=j:=by rw[hkls];simp;omega
   have hnlen:nb.length=j:=by rw[hnbs];simp;omega
   have hle:lens 4 (kl.map Ans.c)=true:=vF Ans.c 4 (fun a=>rfl) kl;have hle2:lens 1 (nb.map yS)=true:=vF yS 1 (fun a=>rfl) nb;have hsm:decide (j+1<4294967296)=true:=by simp;omega
   generalize x.kids.l[j]=k at hej htk;have hq:∀q:Ans×Bool,kidA (vM (T.l.map Node.s) self vars i) (T.l.map Node.s) k=q→(kl++[q.1]=(x.kids.l.take (j+1)).map (fun k=>(kidA (vM (T.l.map Node.s) self vars i) (T.l.map Node.s) k).1))∧(nb++[q.2]=(x.kids.l.take (j+1)).map (fun k=>(kidA (vM (T.l.map Node.s) self vars i) (T.l.map Node.s) k).2)):=fun q hq=>by
    rw[htk,hkls,hnbs];simp [hq]
   clear hkls hnbs htk;have hev2:Hid _:=⟨hev⟩
   clear hev;cases hk0:decide (k<0) with
   |true =>
    have hq2:Hid _:=⟨hq (AZero,false) (by unfold kidA;rw[if_pos];exact .inl (by simpa using hk0))⟩
    clear hq hns;cases st with
    |true =>
     clear hst
     (repeat' first|refine gA ?_|refine gT ?_ ?_<;>intro hv<;>try cases hv;done|fail)
     refine zB (j+1,true,kl++[AZero],nb++[false]) (by first|omega|(dsimp only;omega)) ⟨by first|omega|(dsimp only;omega),by simp,hq2.h.1,hq2.h.2⟩ (by(have X_:=c5 @mapA @yS.eq_1 @AZero.eq_1 @Zero.eq_1 @Ans.c.eq_1;exact aTdX))
    |false =>
     have hj0:j=0:=by simpa using hst
     subst hj0;obtain rfl:kl=[]:=List.length_eq_zero_iff.1 hklen;obtain rfl:nb=[]:=List.length_eq_zero_iff.1 hnlen;have hej:x.kids.l[0]?=some _:=hej;clear hst hklen hnlen hle hle2 hsm
     (repeat' first|refine gA ?_|refine gT ?_ ?_<;>intro hv<;>try cases hv;done|fail)
     refine zB (1,true,[AZero],[false]) (by first|omega|(dsimp only;omega)) ⟨by first|omega|(dsimp only;omega),rfl,hq2.h.1,hq2.h.2⟩ (by(have X_:=c5 @mapA @yS.eq_1 @AZero.eq_1 @Zero.eq_1 @Ans.c.eq_1;exact aTdX))
   |false =>
    cases hk1:decide (k ≥ (i:Int)) with
    |true =>
     have hq2:Hid _:=⟨hq (AZero,false) (by unfold kidA;rw[if_pos];exact .inr (by rw[uA];simpa using hk1))⟩
     clear hq hns;cases st with
     |true =>
      clear hst
      (repeat' first|refine gA ?_|refine gT ?_ ?_<;>intro hv<;>try cases hv;done|fail)
      refine zB (j+1,true,kl++[AZero],nb++[false]) (by first|omega|(dsimp only;omega)) ⟨by first|omega|(dsimp only;omega),by simp,hq2.h.1,hq2.h.2⟩ (by(have X_:=c5 @mapA @yS.eq_1 @AZero.eq_1 @Zero.eq_1 @Ans.c.eq_1;exact aTdX))
     |false =>
      have hj0:j=0:=by simpa using hst
      subst hj0;obtain rfl:kl=[]:=List.length_eq_zero_iff.1 hklen;obtain rfl:nb=[]:=List.length_eq_zero_iff.1 hnlen;have hej:x.kids.l[0]?=some _:=hej;clear hst hklen hnlen hle hle2 hsm
      (repeat' first|refine gA ?_|refine gT ?_ ?_<;>intro hv<;>try cases hv;done|fail)
      refine zB (1,true,[AZero],[false]) (by first|omega|(dsimp only;omega)) ⟨by first|omega|(dsimp only;omega),rfl,hq2.h.1,hq2.h.2⟩ (by(have X_:=c5 @mapA @yS.eq_1 @AZero.eq_1 @Zero.eq_1 @Ans.c.eq_1;exact aTdX))
    |false =>
     have h0k:0≤k:=by simpa using hk0
     obtain⟨q,rfl⟩:=Int.eq_ofNat_of_zero_le h0k;have hqi:q<i:=by
                 have:¬ ((q:Int) ≥ i):=by simpa using hk1
                 omega
     have hqT:q<T.l.length:=by omega
     have heq:T.l[q]?=some T.l[q]:=List.getElem?_eq_getElem hqT;have hnq:(T.l.map Node.s)[q]?=some T.l[q].s:=by rw[List.getElem?_map,heq];rfl
     have hga:all[q]?=some (getA (vM (T.l.map Node.s) self vars i) q):=by
      rw[hall2.h,List.getElem?_append_left (by rw[uA];exact hqi)];unfold getA;rw[List.getD_eq_getElem?_getD,List.getElem?_eq_getElem (by rw[uA];exact hqi)];rfl
     have hkid:kidA (vM (T.l.map Node.s) self vars i) (T.l.map Node.s) (q:Int)=(getA (vM (T.l.map Node.s) self vars i) q,T.l[q].s.nul):=by
      unfold kidA;rw[if_neg (by rw[uA];omega)];simp only[Int.toNat_natCast,hnq]
     generalize T.l[q]=y at heq hkid;have hq2:=hq _ hkid;generalize getA (vM (T.l.map Node.s) self vars i) q=ga at hga hq2;have hqT2:(q:Int)<(T.l.length:Int):=by omega
     have hnth:nth (all.map Ans.c) q=some ga.c:=by rw[yR,List.getElem?_map,hga];rfl
     obtain⟨⟨gk,gn,gs⟩,ge⟩:=ga;simp only[Ans.c] at hnth;clear hq hns hnq hkid;have hnull:y.s.nul=(y.op==1&&y.v.k==0):=rfl;rw[hnull] at hq2;clear hnull;cases hop:y.op==1 with
     |true =>
      rw[hop,Bool.true_and] at hq2;have hq2:Hid _:=⟨hq2⟩
      cases st with
      |true =>
       clear hst
       (repeat' first|refine gA ?_|refine gT ?_ ?_<;>intro hv<;>try cases hv;done|fail)
       refine zB (j+1,true,kl++[⟨⟨gk,gn,gs⟩,ge⟩],nb++[y.v.k==0]) (by first|omega|(dsimp only;omega)) ⟨by first|omega|(dsimp only;omega),by simp,hq2.h.1,hq2.h.2⟩ (by(have X_:=c5 @mapA @yS.eq_1 @AZero.eq_1 @Zero.eq_1 (c2 @Ans.c.eq_1 @Int.toNat_natCast);exact aTdX))
      |false =>
       have hj0:j=0:=by simpa using hst
       subst hj0;obtain rfl:kl=[]:=List.length_eq_zero_iff.1 hklen;obtain rfl:nb=[]:=List.length_eq_zero_iff.1 hnlen;have hej:x.kids.l[0]?=some _:=hej;clear hst hklen hnlen hle hle2 hsm
       (repeat' first|refine gA ?_|refine gT ?_ ?_<;>intro hv<;>try cases hv;done|fail)
       refine zB (1,true,[⟨⟨gk,gn,gs⟩,ge⟩],[y.v.k==0]) (by first|omega|(dsimp only;omega)) ⟨by first|omega|(dsimp only;omega),rfl,hq2.h.1,hq2.h.2⟩ (by(have X_:=c5 @mapA @yS.eq_1 @AZero.eq_1 @Zero.eq_1 (c2 @Ans.c.eq_1 @Int.toNat_natCast);exact aTdX))
     |false =>
      rw[hop,Bool.false_and] at hq2;have hq2:Hid _:=⟨hq2⟩
      cases st with
      |true =>
       clear hst
       (repeat' first|refine gA ?_|refine gT ?_ ?_<;>intro hv<;>try cases hv;done|fail)
       refine zB (j+1,true,kl++[⟨⟨gk,gn,gs⟩,ge⟩],nb++[false]) (by first|omega|(dsimp only;omega)) ⟨by first|omega|(dsimp only;omega),by simp,hq2.h.1,hq2.h.2⟩ (by(have X_:=c5 @mapA @yS.eq_1 @AZero.eq_1 @Zero.eq_1 (c2 @Ans.c.eq_1 @Int.toNat_natCast);exact aTdX))
      |false =>
       have hj0:j=0:=by simpa using hst
       subst hj0;obtain rfl:kl=[]:=List.length_eq_zero_iff.1 hklen;obtain rfl:nb=[]:=List.length_eq_zero_iff.1 hnlen;have hej:x.kids.l[0]?=some _:=hej;clear hst hklen hnlen hle hle2 hsm
       (repeat' first|refine gA ?_|refine gT ?_ ?_<;>intro hv<;>try cases hv;done|fail)
       refine zB (1,true,[⟨⟨gk,gn,gs⟩,ge⟩],[false]) (by first|omega|(dsimp only;omega)) ⟨by first|omega|(dsimp only;omega),rfl,hq2.h.1,hq2.h.2⟩ (by(have X_:=c5 @mapA @yS.eq_1 @AZero.eq_1 @Zero.eq_1 (c2 @Ans.c.eq_1 @Int.toNat_natCast);exact aTdX))
  have hdj:decide ((j:Int)<x.kids.l.length)=false:=by simpa using hj'
  have hjl:j=x.kids.l.length:=by omega
  have hi2:(i:Int)<(T.l.length:Int):=by omega
  have hi0:(0:Int)≤(i:Int):=by omega
  have hnthi:nth (all.map Ans.c) i=some AZero.c:=by
   rw[yR,List.getElem?_map,hall2.h,List.getElem?_append_right (by rw[uA];exact Nat.le_refl _),uA,Nat.sub_self];have hr:T.l.length - i=(T.l.length - (i+1))+1:=by omega
   rw[hr,List.replicate_succ];rfl
  simp only[AZero,Zero,Ans.c] at hnthi;have hlf:=yAI x.op x.v x.name (.sl x.kids.nl x.kids.cl (x.kids.l.map intC)) (.int .i64 x.line) (.int .i64 x.col) self vnl vcl vars hvl;have hklp:∀a ∈ kl,AOK a:=by
   rw[hkls];intro a ha;obtain⟨k,_,rfl⟩:=List.mem_map.1 ha;exact yEP _ _ _ (hev i)
  have hkl2:kl.length<4294967295:=by rw[hkls];simp;omega
  have hklen:kl.length=j:=by rw[hkls];simp;omega
  have hnode:zFf (vM (T.l.map Node.s) self vars i) (T.l.map Node.s) x.s self vars=if (jL x.op x.v x.name self vars).2 then (jL x.op x.v x.name self vars).1 else if (uR x.op kl nb).2 then (uR x.op kl nb).1 else zAx x.op kl nb:=by
   rw[hjl,List.take_length] at hkls hnbs;unfold zFf;rw[hkls,hnbs];rfl
  have hstep:∀a,zFf (vM (T.l.map Node.s) self vars i) (T.l.map Node.s) x.s self vars=a→all.set i a=vM (T.l.map Node.s) self vars (i+1)++List.replicate (T.l.length - (i+1)) AZero∧a=zGO (vM (T.l.map Node.s) self vars (i+1)):=fun a ha=>by
   have he1:vM (T.l.map Node.s) self vars (i+1)=vM (T.l.map Node.s) self vars i++[a]:=by rw[vM,hns];simp only[ha]
   rw[he1];refine⟨?_,(zKq _ _).symm⟩;rw[hall2.h,List.set_append_right _ _ (by rw[uA];exact Nat.le_refl _),uA,Nat.sub_self];have hr:T.l.length - i=(T.l.length - (i+1))+1:=by omega
   rw[hr,List.replicate_succ,List.set_cons_zero,List.append_assoc];rfl
  have hnb0':j=0→nb=[]:=fun h=>by rw[hnbs,h];rfl
  have hev2:Hid _:=⟨hev⟩
  clear hkls hnbs hev hns hjl;cases st with
  |true =>
   have hemp:kl.isEmpty=false:=by
    cases kl with
    |nil=>simp at hst hklen;omega
    |cons a l=>rfl
   clear hst hklen hnb0';have htr:=zMy x.op kl nb false hemp hklp;have hot:=zME x.op kl nb false hemp hklp hkl2;clear hklp hkl2 hemp;generalize jL x.op x.v x.name self vars=lf at hlf hnode;generalize uR x.op kl nb=tr at htr hnode;generalize zAx x.op kl nb=ot at hot hnode;obtain⟨⟨⟨lk,ln,ls⟩,le⟩,lb⟩:=lf;obtain⟨⟨⟨tk,tn,tS⟩,te⟩,tb⟩:=tr;obtain⟨⟨ok,on,os⟩,oe⟩:=ot;have hstep2:Hid _:=⟨hstep⟩
   have hnode2:Hid _:=⟨hnode⟩
   clear hstep hnode;simp only[List.map_nil] at htr hot;cases lb with
   |true =>
    have hfin:=hstep2.h ⟨⟨lk,ln,ls⟩,le⟩ (by rw[hnode2.h];rfl)
    (have x0_:=@Ans.c.eq_1;have x1_:=@qR.eq_1;(repeat' first|refine gA ?_|refine gT ?_ ?_<;>intro hv<;>try cases hv;done|fail);all_goals clear x0_ x1_)
    refine zB (i+1,all.set i ⟨⟨lk,ln,ls⟩,le⟩,⟨⟨lk,ln,ls⟩,le⟩) (by first|omega|(dsimp only;omega)) ⟨by first|omega|(dsimp only;omega),hfin.1,hfin.2⟩ (by(have X_:=c5 @kH @mapS @AZero.eq_1 @Zero.eq_1 @Ans.c.eq_1;exact aTdX))
   |false =>
    cases tb with
    |true =>
     have hfin:=hstep2.h ⟨⟨tk,tn,tS⟩,te⟩ (by rw[hnode2.h];rfl)
     (have x0_:=@Ans.c.eq_1;have x1_:=@qR.eq_1;(repeat' first|refine gA ?_|refine gT ?_ ?_<;>intro hv<;>try cases hv;done|fail);all_goals clear x0_ x1_)
     refine zB (i+1,all.set i ⟨⟨tk,tn,tS⟩,te⟩,⟨⟨tk,tn,tS⟩,te⟩) (by first|omega|(dsimp only;omega)) ⟨by first|omega|(dsimp only;omega),hfin.1,hfin.2⟩ (by(have X_:=c5 @kH @mapS @AZero.eq_1 @Zero.eq_1 @Ans.c.eq_1;exact aTdX))
    |false =>
     have hfin:=hstep2.h ⟨⟨ok,on,os⟩,oe⟩ (by rw[hnode2.h];rfl)
     (have x0_:=@Ans.c.eq_1;have x1_:=@qR.eq_1;(repeat' first|refine gA ?_|refine gT ?_ ?_<;>intro hv<;>try cases hv;done|fail);all_goals clear x0_ x1_)
     refine zB (i+1,all.set i ⟨⟨ok,on,os⟩,oe⟩,⟨⟨ok,on,os⟩,oe⟩) (by first|omega|(dsimp only;omega)) ⟨by first|omega|(dsimp only;omega),hfin.1,hfin.2⟩ (by(have X_:=c5 @kH @mapS @AZero.eq_1 @Zero.eq_1 @Ans.c.eq_1;exact aTdX))
  |false =>
   have hj0:j=0:=by simpa using hst
   have hkl0:kl=[]:=List.length_eq_zero_iff.1 (by omega);subst hkl0;have hnb0:nb=[]:=hnb0' hj0;subst hnb0;have hemp:([]:List Ans).isEmpty=true:=rfl;clear hst hklen hnb0' hj0;have htr:=zMy x.op ([]:List Ans) ([]:List Bool) true hemp hklp;have hot:=zME x.op ([]:List Ans) ([]:List Bool) true hemp hklp hkl2;clear hklp hkl2 hemp;generalize jL x.op x.v x.name self vars=lf at hlf hnode;generalize uR x.op ([]:List Ans) ([]:List Bool)=tr at htr hnode;generalize zAx x.op ([]:List Ans) ([]:List Bool)=ot at hot hnode;obtain⟨⟨⟨lk,ln,ls⟩,le⟩,lb⟩:=lf;obtain⟨⟨⟨tk,tn,tS⟩,te⟩,tb⟩:=tr;obtain⟨⟨ok,on,os⟩,oe⟩:=ot;have hstep2:Hid _:=⟨hstep⟩
   have hnode2:Hid _:=⟨hnode⟩
   clear hstep hnode;simp only[List.map_nil] at htr hot;cases lb with
   |true =>
    have hfin:=hstep2.h ⟨⟨lk,ln,ls⟩,le⟩ (by rw[hnode2.h];rfl)
    (have x0_:=@Ans.c.eq_1;have x1_:=@qR.eq_1;(repeat' first|refine gA ?_|refine gT ?_ ?_<;>intro hv<;>try cases hv;done|fail);all_goals clear x0_ x1_)
    refine zB (i+1,all.set i ⟨⟨lk,ln,ls⟩,le⟩,⟨⟨lk,ln,ls⟩,le⟩) (by first|omega|(dsimp only;omega)) ⟨by first|omega|(dsimp only;omega),hfin.1,hfin.2⟩ (by(have X_:=c5 @kH @mapS @AZero.eq_1 @Zero.eq_1 @Ans.c.eq_1;exact aTdX))
   |false =>
    cases tb with
    |true =>
     have hfin:=hstep2.h ⟨⟨tk,tn,tS⟩,te⟩ (by rw[hnode2.h];rfl)
     (have x0_:=@Ans.c.eq_1;have x1_:=@qR.eq_1;(repeat' first|refine gA ?_|refine gT ?_ ?_<;>intro hv<;>try cases hv;done|fail);all_goals clear x0_ x1_)
     refine zB (i+1,all.set i ⟨⟨tk,tn,tS⟩,te⟩,⟨⟨tk,tn,tS⟩,te⟩) (by first|omega|(dsimp only;omega)) ⟨by first|omega|(dsimp only;omega),hfin.1,hfin.2⟩ (by(have X_:=c5 @kH @mapS @AZero.eq_1 @Zero.eq_1 @Ans.c.eq_1;exact aTdX))
    |false =>
     have hfin:=hstep2.h ⟨⟨ok,on,os⟩,oe⟩ (by rw[hnode2.h];rfl)
     (have x0_:=@Ans.c.eq_1;have x1_:=@qR.eq_1;(repeat' first|refine gA ?_|refine gT ?_ ?_<;>intro hv<;>try cases hv;done|fail);all_goals clear x0_ x1_)
     refine zB (i+1,all.set i ⟨⟨ok,on,os⟩,oe⟩,⟨⟨ok,on,os⟩,oe⟩) (by first|omega|(dsimp only;omega)) ⟨by first|omega|(dsimp only;omega),hfin.1,hfin.2⟩ (by(have X_:=c5 @kH @mapS @AZero.eq_1 @Zero.eq_1 @Ans.c.eq_1;exact aTdX))
 have hd:decide ((i:Int)<T.l.length)=false:=by simpa using hi'
 have hil:i=T.l.length:=by omega
 have hE:uD (T.l.map Node.s) self vars=last:=by unfold uD;rw[List.length_map,← hil];exact hlast.symm
 rw[hE];clear hall hlast hev hE hil;obtain⟨⟨lk,ln,ls⟩,le⟩:=last
 (have x0_:=@Ans.c.eq_1;(repeat' first|refine gA ?_|refine gT ?_ ?_<;>intro hv<;>try cases hv;done|fail);all_goals clear x0_)
 (refine aO ?_ ?_)
 ·rfl
 rfl
end Go.Ab
