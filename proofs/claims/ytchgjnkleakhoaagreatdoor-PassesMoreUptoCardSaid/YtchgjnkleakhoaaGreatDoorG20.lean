/- Lemmas. -/
import Derived.Test.YtchgjnkleakhoaaGreatDoorG19
set_option maxRecDepth 1000000
set_option maxHeartbeats 40000000
set_option linter.all false
namespace Go.Ab
open Go.Proofs
attribute [local irreducible] W RW RR
def zGm(n:Int):∃x:Val,Om CC 142 [.t (.int .i64 n)] []=some (.val (.t (.agg [.int .u8 x.k,.int .i64 x.n,.str x.s])),[])∧(R64 n→VOK x):=by
 refine zJ zYH rfl ?_
 (have F_:=c5 zF zE zD zB yDN;show W CC 0 5 (zA 142) _ ⟨[(0,_)],[]⟩ _)
 (refine gA ?_)
 all_goals refine aJ ?_<;>exact⟨⟨_,_,_⟩,⟨rfl,rfl⟩,by exact fun h=>yW _ h⟩
noncomputable def zFh(n:Int):Val:=(zGm n).choose
def zLD(n:Int):Om CC 142 [.t (.int .i64 n)] []=some (.val (.t (.agg [.int .u8 (zFh n).k,.int .i64 (zFh n).n,.str (zFh n).s])),[]):=(zGm n).choose_spec.1
def zNs(n:Int):R64 n→VOK (zFh n):=(zGm n).choose_spec.2
def yAQ(a:Val)(x y:Bool)(ha:VOK a):∃r:Ans,Om CC 139 [.t (.sl x y [[.int .u8 a.k,.int .i64 a.n,.str a.s]])] []=some (.val (.t (.agg [.int .u8 r.v.k,.int .i64 r.v.n,.str r.v.s,.int .i64 r.e])),[])∧AOK r:=by
 refine zJ zZr rfl ?_
 (have F_:=c5 zF zQ zE zD (c5 xE zB zU xG (c5 yEU zPj zDi zGt (c5 zSE @zBs @zFj @zP5 @vT)));show W CC 0 25 (zA 139) _ ⟨[(0,_)],[]⟩ _)
 obtain⟨f1,hf1,_⟩:=zHh 1 2 [a] x y (by simp);simp only[List.map_cons,List.map_nil,Val.c] at hf1;have hn:=ha.1
 (repeat' first|refine gA ?_|refine gT ?_ ?_<;>intro hv|fail)
 all_goals refine aJ ?_<;>(first|exact⟨⟨a,0⟩,⟨rfl,rfl⟩,ha⟩|exact⟨Told (VNeg a).1 (VNeg a).2,⟨rfl,rfl⟩,zGs _ _ (zS2 a)⟩|exact⟨Fail 8,⟨rfl,rfl⟩,zEC _⟩)
def zWi(a b:Val)(x y:Bool)(hb:R64 b.n):∃r:Ans,Om CC 140 [.t (.sl x y [[.int .u8 a.k,.int .i64 a.n,.str a.s],[.int .u8 b.k,.int .i64 b.n,.str b.s]])] []=some (.val (.t (.agg [.int .u8 r.v.k,.int .i64 r.v.n,.str r.v.s,.int .i64 r.e])),[])∧AOK r:=by
 refine zJ zZm rfl ?_
 (have F_:=c5 zF zE zD xE (c5 zB zU xG yBA (c5 yCD zGt zVm @zFj (c3 @zLD @vT @zDe)));show W CC 0 21 (zA 140) _ ⟨[(0,_)],[]⟩ _)
 have hm:=yAE a.n b.n hb
 (refine gA ?_)
 all_goals refine aJ ?_<;>exact⟨Told (zFh (NMod a.n b.n).1) (NMod a.n b.n).2,⟨rfl,rfl⟩,zGs _ _ (zNs _ (yBg _ _))⟩
def zWS(a:Val)(x y:Bool)(hn:R64 a.n):∃r:Ans,Om CC 132 [.t (.sl x y [[.int .u8 a.k,.int .i64 a.n,.str a.s]])] []=some (.val (.t (.agg [.int .u8 r.v.k,.int .i64 r.v.n,.str r.v.s,.int .i64 r.e])),[])∧AOK r:=by
 refine zJ zYT rfl ?_
 (have F_:=c5 zF zE zD xE (c5 zB zU xG yFi (c5 zGt zSE @zFj @zP5 @vT));show W CC 0 10 (zA 132) _ ⟨[(0,_)],[]⟩ _)
 (refine gA ?_)
 all_goals refine aJ ?_<;>exact⟨Told (VNeg a).1 (VNeg a).2,⟨rfl,rfl⟩,zGs _ _ (zS2 a)⟩
def zWL(a:Val)(x y:Bool)(ha:VOK a):∃r:Ans,Om CC 141 [.t (.sl x y [[.int .u8 a.k,.int .i64 a.n,.str a.s]])] []=some (.val (.t (.agg [.int .u8 r.v.k,.int .i64 r.v.n,.str r.v.s,.int .i64 r.e])),[])∧AOK r:=by
 refine zJ zZG rfl ?_
 (have F_:=c5 zF zE zD xE (c5 zB zU xG yCr (c3 zVm @zLD @vT));show W CC 0 10 (zA 141) _ ⟨[(0,_)],[]⟩ _)
 have hl:R64 (a.s.length:Int):=by have:=ha.2;unfold R64;omega
 (refine gA ?_)
 all_goals refine aJ ?_<;>exact⟨⟨zFh a.s.length,0⟩,⟨rfl,rfl⟩,zNs _ hl⟩
def zRQ(l:List Val)(x y:Bool)(hl:l.length<4294967295)(hr:∀v ∈ l,VOK v):∃r:Ans,Om CC 135 [.t (.sl x y (l.map Val.c))] []=some (.val (.t (.agg [.int .u8 r.v.k,.int .i64 r.v.n,.str r.v.s,.int .i64 r.e])),[])∧AOK r:=by
 refine zJ zXX rfl ?_
 (have F_:=c5 zF zE zD xE (c5 zB zU xG yDV (c3 zGt yFZ @zFj));show W CC 0 8 (zA 135) _ ⟨[(0,_)],[]⟩ _)
 obtain⟨z,hz,hzp⟩:=zRY l x y hl (fun v hv=>(hr v hv).1);clear hr
 (refine gA ?_)
 all_goals refine aJ ?_<;>exact⟨Told z.1 z.2,⟨rfl,rfl⟩,zGs _ _ hzp⟩
def zTP(l:List Val)(x y:Bool)(hl:l.length<4294967295)(hr:∀v ∈ l,VOK v):∃r:Ans,Om CC 137 [.t (.sl x y (l.map Val.c))] []=some (.val (.t (.agg [.int .u8 r.v.k,.int .i64 r.v.n,.str r.v.s,.int .i64 r.e])),[])∧AOK r:=by
 refine zJ yAt rfl ?_
 (have F_:=c5 zF zE zD xE (c5 zB zU xG yGa (c3 zGt yDB @zFj));show W CC 0 8 (zA 137) _ ⟨[(0,_)],[]⟩ _)
 obtain⟨z,hz,hzp⟩:=zTe l x y hl (fun v hv=>(hr v hv).1);clear hr
 (refine gA ?_)
 all_goals refine aJ ?_<;>exact⟨Told z.1 z.2,⟨rfl,rfl⟩,zGs _ _ hzp⟩
def zRV(g:Look)(s:List Nat)(n:Nat)(h:n≤s.length):slice Tryz.prog g 9 (.t (.str s)) none (some (n:Int)) none=some (.t (.str (s.take n))):=by
 unfold slice;rw[zEg];simp;omega
def zHT(a b:List Nat):∃r:Bool,Om CC 183 [.t (.str a),.t (.str b)] []=some (.val (.t (.bool r)),[])∧True:=by
 refine zJ zQh rfl ?_
 (have F_:=c3 zG zD zVa;show W CC 0 18 (zA 183) _ ⟨[(0,_),(1,_)],[]⟩ _)
 by_cases h:b.length≤a.length
 ·have hd:decide ((a.length:Int) ≥ b.length)=true:=by simpa using h
  have hs:=fun g=>zRV g a b.length h
  (have x0_:=@Ab.bound.eq_1;have x1_:=@Ab.bound.eq_2;(refine gA ?_);all_goals clear x0_ x1_)
  all_goals refine aJ ?_<;>exact⟨_,⟨rfl,rfl⟩,trivial⟩
 have hd:decide ((a.length:Int) ≥ b.length)=false:=by simp;omega
 (refine gA ?_)
 all_goals refine aJ ?_<;>exact⟨_,⟨rfl,rfl⟩,trivial⟩
noncomputable def zXi(a b:List Nat):Bool:=(zHT a b).choose
def zPP(a b:List Nat):Om CC 183 [.t (.str a),.t (.str b)] []=some (.val (.t (.bool (zXi a b))),[]):=(zHT a b).choose_spec.1
def zJv(a:List Nat)(b:List Nat):∃x:Bool,Om CC 125 [.t (.str a),.t (.str b)] []=some (.val (.t (.bool x)),[])∧(True):=by
 refine zJ zQO rfl ?_
 (have F_:=c3 zD zUt (c2 zKD @zPP);show W CC 0 8 (zA 125) _ ⟨[(0,_),(1,_)],[]⟩ _)
 (refine gA ?_)
 all_goals refine aJ ?_<;>exact⟨_,⟨rfl,rfl⟩,by trivial⟩
noncomputable def zQz(a:List Nat)(b:List Nat):Bool:=(zJv a b).choose
def zRi(a:List Nat)(b:List Nat):Om CC 125 [.t (.str a),.t (.str b)] []=some (.val (.t (.bool (zQz a b))),[]):=(zJv a b).choose_spec.1
def zSx(a b:Val)(x y:Bool):∃r:Ans,Om CC 124 [.t (.sl x y [[.int .u8 a.k,.int .i64 a.n,.str a.s],[.int .u8 b.k,.int .i64 b.n,.str b.s]])] []=some (.val (.t (.agg [.int .u8 r.v.k,.int .i64 r.v.n,.str r.v.s,.int .i64 r.e])),[])∧AOK r:=by
 refine zJ zZz rfl ?_
 (have F_:=c5 zF zQ zE zD (c5 xE zB zU xG (c5 yBN zBU zDz @zRi (c3 @uU @vT @zDe)));show W CC 0 14 (zA 124) _ ⟨[(0,_)],[]⟩ _)
 (refine gA ?_)
 all_goals refine aJ ?_<;>exact⟨⟨uR (zQz a.s b.s),0⟩,⟨rfl,rfl⟩,zC0 _⟩
noncomputable def varA(name:List Nat)(l:List Bind):Ans :=
 match l.findIdx? (fun b=>beqL b.name name) with
 |some i=>Held ((l.map Bind.v).getD i Zero)
 |none=>Fail 11
def zWU{name:List Nat}{l:List Bind}{i:Nat}(hi:i<l.length)(h:beqL l[i].name name=true)(hn:∀j (hj:j<l.length),j<i→beqL l[j].name name=false):varA name l=Held l[i].v:=by
 have:l.findIdx? (fun t=>beqL t.name name)=some i:=by
  rw[List.findIdx?_eq_some_iff_getElem];exact⟨hi,h,fun j hj=>by simp [hn j (by omega) hj]⟩
 unfold varA;rw[this];simp [List.getD,hi]
def zUf{name:List Nat}{l:List Bind}(hn:∀j (hj:j<l.length),beqL l[j].name name=false):varA name l=Fail 11:=by
 have:l.findIdx? (fun t=>beqL t.name name)=none:=by
  rw[List.findIdx?_eq_none_iff];intro x hx;obtain⟨j,hj,rfl⟩:=List.getElem_of_mem hx;exact hn j hj
 unfold varA;rw[this]
noncomputable def uJ(op:Int)(v:Val)(name:List Nat)(self:Val)(l:List Bind):Ans×Bool :=
 if op=1 then (Held v,true) else if op=3 then (Held self,true) else if op=2 then (varA name l,true) else (AZero,false)
def zYQ (op:Int) (v:Val) (name:List Nat) (kids line col:Tree) (self:Val) (nl cl:Bool) (l:List Bind) (hl:l.length<9223372036854775808) :
  Om CC 81 [.t (.agg [.int .u8 op,.int .u8 v.k,.int .i64 v.n,.str v.s,.str name,kids,line,col]),.t (.agg [.int .u8 self.k,.int .i64 self.n,.str self.s]),.t (.sl nl cl (l.map Bind.c))] []=some (.val (.tup [.t (.agg [.int .u8 (uJ op v name self l).1.v.k,.int .i64 (uJ op v name self l).1.v.n,.str (uJ op v name self l).1.v.s,.int .i64 (uJ op v name self l).1.e]),.t (.bool (uJ op v name self l).2)]),[]):=by
 refine zK yGe rfl ?_
 (have F_:=c5 zF zG zE zD (c5 zI uH zB vV (c5 zL zN zU xG (c5 yHi yFR zDi @yAz @zBs)));show W CC 0 40 (zA 81) _ ⟨[(0,_),(1,_),(2,_)],[]⟩ _)
 by_cases h1:op=1
 ·subst h1
  (refine gA ?_)
  (refine aK ?_ ?_)
  ·rfl
  rfl
 have e1:(op==1)=false:=by simpa using h1
 by_cases h3:op=3
 ·subst h3
  (refine gA ?_)
  (refine aK ?_ ?_)
  ·rfl
  rfl
 have e3:(op==3)=false:=by simpa using h3
 by_cases h2:op=2
 ·subst h2;have hL:uJ 2 v name self l=(varA name l,true):=by simp [uJ]
  rw[hL];clear h1 h3
  (refine gA ?_)
  refine zY (α:=Nat) (fun i=>⟨[(3,.box 0 0),(6,.box 1 0),(23,.t (.sl nl cl (l.map Bind.c))),(24,.t (.int .i64 l.length)),(25,.t (.int .i64 i))],[.box [.t (.int .u8 2),.t (.int .u8 v.k),.t (.int .i64 v.n),.t (.str v.s),.t (.str name),.t kids,.t line,.t col],.box (AZero.c.map .t)]⟩) (fun i=>l.length - i)
   (fun i=>i≤l.length∧∀j (hj:j<l.length),j<i→beqL l[j].name name=false) 0 (by kernel_rfl) ⟨Nat.zero_le _,fun j _ hj=>by omega⟩ ?_
  rintro i ⟨hi,hn⟩;simp only[AZero,Zero,Ans.c,List.map_cons,List.map_nil]
  by_cases hi':i<l.length
  ·have hw:=wI64 i (by omega);have he:l[i]?=some l[i]:=List.getElem?_eq_getElem hi';have hd:decide ((i:Int)<l.length)=true:=by simpa using hi'
   cases hb:beqL l[i].name name with
   |true =>
    rw[zWU hi' hb hn];clear hn
    (refine gA ?_)
    (refine aK ?_ ?_)
    ·rfl
    rfl
   |false =>
    have hn':∀j (hj:j<l.length),j<i+1→beqL l[j].name name=false:=fun j hj hji=>by
     rcases Nat.lt_or_ge j i with h|h
     ·exact hn j hj h
     obtain rfl:j=i:=by omega
     exact hb
    clear hn
    (refine gA ?_)
    refine zC (i+1) (by omega) ⟨by omega,hn'⟩ (by(have X_:=c3 @AZero.eq_1 @Zero.eq_1 @Ans.c.eq_1;exact aTdX))
  have hd:decide ((i:Int)<l.length)=false:=by simpa using hi'
  rw[zUf fun j hj=>hn j hj (by omega)];clear hn
  (refine gA ?_)
  (refine aK ?_ ?_)
  ·rfl
  rfl
 have e2:(op==2)=false:=by simpa using h2
 have hL:uJ op v name self l=(AZero,false):=by simp [uJ,h1,h2,h3]
 rw[hL]
 (refine gA ?_)
 (refine aK ?_ ?_)
 ·rfl
 rfl
def u8C(n:Int):List Tree:=[.int .u8 n]
def zJG:∀bs:List Int,zD7 (bs.map u8C)=some (bs.map fun n=>n.toNat % 256)
 |[]=>rfl
 |b::bs=>by
  have h:=zJG bs
  show (match zD7 (bs.map u8C) with|some bs=>some (b.toNat % 256::bs)|none=>none)=_
  rw[h];rfl
def zTH(a:Val)(x y:Bool)(ha:VOK a):∃r:Ans,Om CC 143 [.t (.sl x y [[.int .u8 a.k,.int .i64 a.n,.str a.s]])] []=some (.val (.t (.agg [.int .u8 r.v.k,.int .i64 r.v.n,.str r.v.s,.int .i64 r.e])),[])∧AOK r:=by
 refine zJ yAy rfl ?_
 (have F_:=c5 zF zG zE zD (c5 xE zB zU zOK (c3 xG yBn @vT));show W CC 0 35 (zA 143) _ ⟨[(0,_)],[]⟩ _)
 have hs:a.s.length<4294967281:=ha.2;clear ha
 (refine gA ?_)
 refine zY (α:=Nat×List Int) (fun q=>⟨[(2,.box 0 0),(3,.hs 1 0),(11,.hs 1 0),(12,.t (.int .i64 a.s.length)),(13,.t (.int .i64 q.1))],[.box (AZero.c.map .t),.arr 1 0 false (q.2.map u8C)]⟩)
  (fun q=>a.s.length - q.1) (fun q=>q.1≤a.s.length∧q.2.length=a.s.length) (0,a.s.map Int.ofNat) ?_ ⟨Nat.zero_le _,by simp⟩ ?_
 ·(simp only[xN,wF,F_,tidy,zCk,canon,reach,wQ,refs,vY,catMap,depth,renL,ren,renO,sub,sub1,upto,mem,place,fresh,cond_true,Ab.get,nth,List.map,List.zip_cons_cons,List.zip_nil_left,List.zip_nil_right,List.take,List.append_nil,List.nil_append,List.cons_append,Bool.and_true,vI,decide_true,decide_false,reduceIte,Nat.reduceEqDiff,Nat.beq,Sl.t,Val.c,Slot.c,Tpl.c,Fact.c,Bind.c,Node.c,Test.c,STest.c,Pat.c,intC,AZero,Zero,Ans.c,byteCells,List.length_map,List.map_map,Function.comp_def,u8C,Int.ofNat_eq_natCast]<;>exact rfl)
 rintro⟨i,bs⟩ ⟨hi,hl⟩
 try dsimp only at hi hl
 simp only[AZero,Zero,Ans.c,List.map_cons,List.map_nil]
 by_cases hi':i<a.s.length
 ·have hw:=wI64 i (by omega);have hd:decide ((i:Int)<a.s.length)=true:=by simpa using hi'
  have hi0:(0:Int)≤(i:Int):=by omega
  have hi2:(i:Int)<(a.s.length:Int):=by omega
  have he:nth (bs.map u8C) i=some [.int .u8 (bs[i]'(by omega))]:=by rw[yP];simp [u8C,hl,hi']
  generalize bs[i]'(by omega)=b at he
  (have x0_:=@qB.eq_1;(repeat' first|refine gA ?_|refine gT ?_ ?_<;>intro hv|fail);all_goals clear x0_)
  ·refine zC (i+1,bs.set i (IntKind.u8.wrap (IntKind.u8.wrap (b - 97)+65))) (by first|omega|(dsimp only;omega)) ⟨by first|omega|(dsimp only;omega),by simp [hl]⟩ (by(have X_:=c5 @AZero.eq_1 @Zero.eq_1 @Ans.c.eq_1 @qP (c2 @mapS @u8C.eq_1);exact aTdX))
  all_goals refine zC (i+1,bs) (by first|omega|(dsimp only;omega)) ⟨by first|omega|(dsimp only;omega),hl⟩ (by(have X_:=c3 @AZero.eq_1 @Zero.eq_1 @Ans.c.eq_1;exact aTdX))
 have hd:decide ((i:Int)<a.s.length)=false:=by simpa using hi'
 have hbo:=zJG bs
 (refine gA ?_)
 (refine aJ ?_)
 refine⟨⟨⟨3,0,bs.map fun n=>n.toNat % 256⟩,0⟩,⟨rfl,rfl⟩,vX,?_⟩;simp;omega
def zXd(a b:Val)(x y:Bool)(ha:VOK a):∃r:Ans,Om CC 122 [.t (.sl x y [[.int .u8 a.k,.int .i64 a.n,.str a.s],[.int .u8 b.k,.int .i64 b.n,.str b.s]])] []=some (.val (.t (.agg [.int .u8 r.v.k,.int .i64 r.v.n,.str r.v.s,.int .i64 r.e])),[])∧AOK r:=by
 refine zJ yA6 rfl ?_
 (have F_:=c5 zF zQ zE zD (c5 xE zB zU xG (c5 yCW yCO zDz @uU (c2 @vT @zDe)));show W CC 0 14 (zA 122) _ ⟨[(0,_)],[]⟩ _)
 have hs:a.s.length<4294967281:=ha.2;have hh:CC.prim 123 [.t (.str a.s),.t (.str b.s)]=some (.t (.bool (Lib.contains (ub a.s) (ub b.s)))):=by
  rw[zX7]
  show (bif Nat.blt a.s.length 4294967281 then _ else _)=_
  rw[show Nat.blt a.s.length 4294967281=true from by rw[Nat.blt_eq];exact hs];rfl
 clear ha
 (repeat' first|refine gA ?_|refine gT ?_ ?_<;>intro hv<;>try cases hv;done|fail)
 all_goals refine aJ ?_<;>exact⟨⟨uR _,0⟩,⟨rfl,rfl⟩,zC0 _⟩
def zLZ(a b:Val)(ha:VOK a)(hb:VOK b):∃x:Val,Om CC 55 [.t (.sl false false [[.int .u8 a.k,.int .i64 a.n,.str a.s],[.int .u8 b.k,.int .i64 b.n,.str b.s]])] []=some (.val (.t (.agg [.int .u8 x.k,.int .i64 x.n,.str x.s])),[])∧VOK x :=
 zL9 [a,b] false false (by simp) (by simp [ha,hb])
open Classical in
noncomputable def All2(a b:Val):Val:=if h:VOK a∧VOK b then (zLZ a b h.1 h.2).choose else Zero
def zFf(a b:Val)(ha:VOK a)(hb:VOK b):Om CC 55 [.t (.sl false false [[.int .u8 a.k,.int .i64 a.n,.str a.s],[.int .u8 b.k,.int .i64 b.n,.str b.s]])] []=some (.val (.t (.agg [.int .u8 (All2 a b).k,.int .i64 (All2 a b).n,.str (All2 a b).s])),[]):=by
 unfold All2;rw[dif_pos ⟨ha,hb⟩];exact(zLZ a b ha hb).choose_spec.1
def zK9(a b:Val)(ha:VOK a)(hb:VOK b):VOK (All2 a b):=by
 unfold All2;rw[dif_pos ⟨ha,hb⟩];exact(zLZ a b ha hb).choose_spec.2
def zMv(a b:Val)(ha:VOK a)(hb:VOK b):∃x:Val,Om CC 57 [.t (.sl false false [[.int .u8 a.k,.int .i64 a.n,.str a.s],[.int .u8 b.k,.int .i64 b.n,.str b.s]])] []=some (.val (.t (.agg [.int .u8 x.k,.int .i64 x.n,.str x.s])),[])∧VOK x :=
 zZj [a,b] false false (by simp) (by simp [ha,hb])
open Classical in
noncomputable def Any2(a b:Val):Val:=if h:VOK a∧VOK b then (zMv a b h.1 h.2).choose else Zero
def zFk(a b:Val)(ha:VOK a)(hb:VOK b):Om CC 57 [.t (.sl false false [[.int .u8 a.k,.int .i64 a.n,.str a.s],[.int .u8 b.k,.int .i64 b.n,.str b.s]])] []=some (.val (.t (.agg [.int .u8 (Any2 a b).k,.int .i64 (Any2 a b).n,.str (Any2 a b).s])),[]):=by
 unfold Any2;rw[dif_pos ⟨ha,hb⟩];exact(zMv a b ha hb).choose_spec.1
def zK7(a b:Val)(ha:VOK a)(hb:VOK b):VOK (Any2 a b):=by
 unfold Any2;rw[dif_pos ⟨ha,hb⟩];exact(zMv a b ha hb).choose_spec.2
inductive TrR (nl2 cl2:Bool) (nb:List Bool) (kl:List Ans) (op:Int):Ans×Bool→Prop
 |tor (h:op=4):TrR nl2 cl2 nb kl op (zCF Any2 1 (vB (getA kl 0)) (vB (getA kl 1)),true)
 |tand (h:op=5):TrR nl2 cl2 nb kl op (zCF All2 0 (vB (getA kl 0)) (vB (getA kl 1)),true)
 |tnot (h:op=6):TrR nl2 cl2 nb kl op (notK (vB (getA kl 0)),true)
 |teq {x:Ans} (h:op=7) (hl:Lf 2 kl (EqO true nl2 cl2 nb) x):TrR nl2 cl2 nb kl op (x,true)
 |tne {x:Ans} (h:op=8) (hl:Lf 2 kl (EqO false nl2 cl2 nb) x):TrR nl2 cl2 nb kl op (x,true)
 |tlt {x:Ans} (h:op=9) (hl:Lf 2 kl (LfO1 179 (.fn 117)) x):TrR nl2 cl2 nb kl op (x,true)
 |tle {x:Ans} (h:op=10) (hl:Lf 2 kl (LfO1 179 (.fn 118)) x):TrR nl2 cl2 nb kl op (x,true)
 |tgt {x:Ans} (h:op=11) (hl:Lf 2 kl (LfO1 179 (.fn 119)) x):TrR nl2 cl2 nb kl op (x,true)
 |tge {x:Ans} (h:op=12) (hl:Lf 2 kl (LfO1 179 (.fn 120)) x):TrR nl2 cl2 nb kl op (x,true)
 |thas {x:Ans} (h:op=24) (hl:Lf 2 kl (LfO2 181 (.int .u8 3) (.fn 122)) x):TrR nl2 cl2 nb kl op (x,true)
 |thead {x:Ans} (h:op=25) (hl:Lf 2 kl (LfO2 181 (.int .u8 3) (.fn 124)) x):TrR nl2 cl2 nb kl op (x,true)
 |tno (h:op<4∨(12<op∧op≠24∧op≠25)):TrR nl2 cl2 nb kl op (AZero,false)
def zCc (op:Int) (nl cl nl2 cl2:Bool) (kl:List Ans) (nb:List Bool) (hk:∀a ∈ kl,AOK a) :
  ∃x:Ans×Bool,Om CC 82 [.t (.int .u8 op),.t (.agg [.sl nl cl (kl.map Ans.c),.sl nl2 cl2 (nb.map yN)])] []=some (.val (.tup [.t (.agg [.int .u8 x.1.v.k,.int .i64 x.1.v.n,.str x.1.v.s,.int .i64 x.1.e]),.t (.bool x.2)]),[])∧AOK x.1∧(op=7∨op=8∨op=9∨op=10∨op=11∨op=12→x.2=true∧TB x.1)∧TrR nl2 cl2 nb kl op x:=by
 refine zJ yEj rfl ?_
 (have F_:=c5 zF zG zQ zE (c5 zD zB zU zIE (c5 kW xG kY jA (c5 zNY zBH yGC yDA (c5 zOZ yGf yBl zUG (c2 zNQ @zGH)))));show W CC 0 59 (zA 82) _ ⟨[(0,_),(1,_)],[]⟩ _)
 obtain⟨b0,hb0,pb0,eb0⟩:=zQv 55 zI7 (fun x=>zZ _ x (by decide)) All2 zFf zK9 0 nl cl nl2 cl2 kl nb hk;obtain⟨b1,hb1,pb1,eb1⟩:=zQv 57 zLT (fun x=>zZ _ x (by decide)) Any2 zFk zK7 1 nl cl nl2 cl2 kl nb hk;obtain⟨t0,ht0,pt0,et0⟩:=zGU nl cl nl2 cl2 kl (nb.map yN) 0 hk;have ht0:Om CC 114 [.t (.agg [.sl nl cl (kl.map Ans.c),.sl nl2 cl2 (nb.map yN)]),.t (.int .i64 0)] []=_:=ht0;obtain⟨e1,he1,pe1,le1⟩:=zLQ nl cl nl2 cl2 kl nb hk true;obtain⟨e0,he0,pe0,le0⟩:=zLQ nl cl nl2 cl2 kl nb hk false;obtain⟨o1,ho1,po1,lo1⟩:=zF9 117 yBW (fun x=>zZ _ x (by decide)) zXt zWv nl cl nl2 cl2 kl nb hk;obtain⟨o2,ho2,po2,lo2⟩:=zF9 118 yEW (fun x=>zZ _ x (by decide)) zXk zW7 nl cl nl2 cl2 kl nb hk;obtain⟨o3,ho3,po3,lo3⟩:=zF9 119 yBp (fun x=>zZ _ x (by decide)) zXw zWs nl cl nl2 cl2 kl nb hk;obtain⟨o4,ho4,po4,lo4⟩:=zF9 120 yF7 (fun x=>zZ _ x (by decide)) zXN zVO nl cl nl2 cl2 kl nb hk;obtain⟨s5,hs5,ps5,ls5⟩:=zFs 122 yDw (fun x=>zZ _ x (by decide)) 3 2 (by decide) (fun l x y hl hv=>by
  match l,hl,hv with
  |[a,b],_,hv=>exact zXd a b x y (hv a (by simp))) nl cl nl2 cl2 kl nb hk
 have hs5:Om CC 121 [.t (.agg [.sl nl cl (kl.map Ans.c),.sl nl2 cl2 (nb.map yN)]),.t (.int .i64 2),.t (.int .u8 3),.t (.fn 122)] []=_:=hs5;obtain⟨s6,hs6,ps6,ls6⟩:=zFs 124 yEZ (fun x=>zZ _ x (by decide)) 3 2 (by decide) (fun l x y hl hv=>by
  match l,hl,hv with
  |[a,b],_,hv=>exact zSx a b x y) nl cl nl2 cl2 kl nb hk
 have hs6:Om CC 121 [.t (.agg [.sl nl cl (kl.map Ans.c),.sl nl2 cl2 (nb.map yN)]),.t (.int .i64 2),.t (.int .u8 3),.t (.fn 124)] []=_:=hs6;have pn:=zGD t0.v;have rr:Hid (b0=zCF All2 0 (vB (getA kl 0)) (vB (getA kl 1))∧b1=zCF Any2 1 (vB (getA kl 0)) (vB (getA kl 1))∧t0=vB (getA kl 0)∧Lf 2 kl (EqO true nl2 cl2 nb) e1∧Lf 2 kl (EqO false nl2 cl2 nb) e0∧Lf 2 kl (LfO1 179 (.fn 117)) o1∧Lf 2 kl (LfO1 179 (.fn 118)) o2∧Lf 2 kl (LfO1 179 (.fn 119)) o3∧Lf 2 kl (LfO1 179 (.fn 120)) o4∧Lf 2 kl (LfO2 181 (.int .u8 3) (.fn 122)) s5∧Lf 2 kl (LfO2 181 (.int .u8 3) (.fn 124)) s6):=⟨eb0,eb1,et0,le1,le0,lo1,lo2,lo3,lo4,ls5,ls6⟩
 clear hk eb0 eb1 et0 le1 le0 lo1 lo2 lo3 lo4 ls5 ls6
 (repeat' first|refine gA ?_|refine gT ?_ ?_<;>intro hv<;>try cases hv;done|fail)
 all_goals refine aJ ?_
 all_goals first
  |exact⟨(b0,true),⟨rfl,rfl⟩,pb0,fun h=>absurd h (by clear F_;simp only[beq_iff_eq,beq_eq_false_iff_ne] at *;omega),by rw[rr.h.1];exact .tand (by clear F_;simp only[beq_iff_eq,beq_eq_false_iff_ne] at *;omega)⟩
  |exact⟨(b1,true),⟨rfl,rfl⟩,pb1,fun h=>absurd h (by clear F_;simp only[beq_iff_eq,beq_eq_false_iff_ne] at *;omega),by rw[rr.h.2.1];exact .tor (by clear F_;simp only[beq_iff_eq,beq_eq_false_iff_ne] at *;omega)⟩
  |exact⟨(⟨NotV t0.v,0⟩,true),⟨rfl,rfl⟩,pn,fun h=>absurd h (by clear F_;simp only[beq_iff_eq,beq_eq_false_iff_ne] at *;omega),by have hq:=rr.h.2.2.1;have he:t0.e=0:=(by clear F_;simp_all);have:(⟨NotV t0.v,0⟩:Ans)=notK (vB (getA kl 0)):=(by rw[← hq,notK,if_pos he]);rw[this];exact .tnot (by clear F_;simp only[beq_iff_eq,beq_eq_false_iff_ne] at *;omega)⟩
  |exact⟨(⟨NotV t0.v,t0.e⟩,true),⟨rfl,rfl⟩,pn,fun h=>absurd h (by clear F_;simp only[beq_iff_eq,beq_eq_false_iff_ne] at *;omega),by have hq:=rr.h.2.2.1;have he:t0.e=0:=(by clear F_;simp_all);have:(⟨NotV t0.v,t0.e⟩:Ans)=notK (vB (getA kl 0)):=(by rw[← hq,notK,if_pos he,he]);rw[this];exact .tnot (by clear F_;simp only[beq_iff_eq,beq_eq_false_iff_ne] at *;omega)⟩
  |exact⟨(t0,true),⟨rfl,rfl⟩,pt0,fun h=>absurd h (by clear F_;simp only[beq_iff_eq,beq_eq_false_iff_ne] at *;omega),by have hq:=rr.h.2.2.1;have he:t0.e≠0:=(by clear F_;simp_all);have:t0=notK (vB (getA kl 0)):=(by rw[← hq,notK,if_neg he]);rw[this];exact .tnot (by clear F_;simp only[beq_iff_eq,beq_eq_false_iff_ne] at *;omega)⟩
  |exact⟨(e1,true),⟨rfl,rfl⟩,pe1.1,fun _=>⟨rfl,pe1.2⟩,.teq (by clear F_;simp only[beq_iff_eq,beq_eq_false_iff_ne] at *;omega) rr.h.2.2.2.1⟩
  |exact⟨(e0,true),⟨rfl,rfl⟩,pe0.1,fun _=>⟨rfl,pe0.2⟩,.tne (by clear F_;simp only[beq_iff_eq,beq_eq_false_iff_ne] at *;omega) rr.h.2.2.2.2.1⟩
  |exact⟨(o1,true),⟨rfl,rfl⟩,po1.1,fun _=>⟨rfl,po1.2⟩,.tlt (by clear F_;simp only[beq_iff_eq,beq_eq_false_iff_ne] at *;omega) rr.h.2.2.2.2.2.1⟩
  |exact⟨(o2,true),⟨rfl,rfl⟩,po2.1,fun _=>⟨rfl,po2.2⟩,.tle (by clear F_;simp only[beq_iff_eq,beq_eq_false_iff_ne] at *;omega) rr.h.2.2.2.2.2.2.1⟩
  |exact⟨(o3,true),⟨rfl,rfl⟩,po3.1,fun _=>⟨rfl,po3.2⟩,.tgt (by clear F_;simp only[beq_iff_eq,beq_eq_false_iff_ne] at *;omega) rr.h.2.2.2.2.2.2.2.1⟩
  |exact⟨(o4,true),⟨rfl,rfl⟩,po4.1,fun _=>⟨rfl,po4.2⟩,.tge (by clear F_;simp only[beq_iff_eq,beq_eq_false_iff_ne] at *;omega) rr.h.2.2.2.2.2.2.2.2.1⟩
  |exact⟨(s5,true),⟨rfl,rfl⟩,ps5,fun h=>absurd h (by clear F_;simp only[beq_iff_eq,beq_eq_false_iff_ne] at *;omega),.thas (by clear F_;simp only[beq_iff_eq,beq_eq_false_iff_ne] at *;omega) rr.h.2.2.2.2.2.2.2.2.2.1⟩
  |exact⟨(s6,true),⟨rfl,rfl⟩,ps6,fun h=>absurd h (by clear F_;simp only[beq_iff_eq,beq_eq_false_iff_ne] at *;omega),.thead (by clear F_;simp only[beq_iff_eq,beq_eq_false_iff_ne] at *;omega) rr.h.2.2.2.2.2.2.2.2.2.2⟩
  |exact⟨(AZero,false),⟨rfl,rfl⟩,yR,fun h=>absurd h (by clear F_;simp only[beq_iff_eq,beq_eq_false_iff_ne] at *;omega),.tno (by clear F_;simp only[beq_iff_eq,beq_eq_false_iff_ne] at *;omega)⟩
inductive OtR (kl:List Ans) (op:Int):Ans→Prop
 |oadd {x:Ans} (h:op=13) (hl:Lf 2 kl (LfO1 184 (.fn 127)) x):OtR kl op x
 |osub {x:Ans} (h:op=14) (hl:Lf 2 kl (LfO1 184 (.fn 128)) x):OtR kl op x
 |omul {x:Ans} (h:op=15) (hl:Lf 2 kl (LfO1 184 (.fn 129)) x):OtR kl op x
 |odiv {x:Ans} (h:op=16) (hl:Lf 2 kl (LfO1 184 (.fn 130)) x):OtR kl op x
 |oneg {x:Ans} (h:op=17) (hl:Lf 1 kl (LfO0 132) x):OtR kl op x
 |omin {x:Ans} (h:op=19) (hl:Lf kl.length kl (LfO0 135) x):OtR kl op x
 |omax {x:Ans} (h:op=20) (hl:Lf kl.length kl (LfO0 137) x):OtR kl op x
 |oabs {x:Ans} (h:op=18) (hl:Lf 1 kl (LfO0 139) x):OtR kl op x
 |omod {x:Ans} (h:op=21) (hl:Lf 2 kl (LfO2 181 (.int .u8 1) (.fn 140)) x):OtR kl op x
 |olen {x:Ans} (h:op=22) (hl:Lf 1 kl (LfO2 181 (.int .u8 3) (.fn 141)) x):OtR kl op x
 |oup {x:Ans} (h:op=23) (hl:Lf 1 kl (LfO2 181 (.int .u8 3) (.fn 143)) x):OtR kl op x
 |oif (h:op=26):OtR kl op (zBk (vB (getA kl 0)) (getA kl 1) (getA kl 2))
 |ono (h:op<13∨(23<op∧op≠26)):OtR kl op (Fail 2)
def zE7 (op:Int) (nl cl nl2 cl2:Bool) (kl:List Ans) (nb:List Bool) (hk:∀a ∈ kl,AOK a) (hl:kl.length<4294967295) :
  ∃x:Ans,Om CC 83 [.t (.int .u8 op),.t (.agg [.sl nl cl (kl.map Ans.c),.sl nl2 cl2 (nb.map yN)])] []=some (.val (.t (.agg [.int .u8 x.v.k,.int .i64 x.v.n,.str x.v.s,.int .i64 x.e])),[])∧AOK x∧OtR kl op x:=by
 refine zJ yDx rfl ?_
 (have F_:=c5 zF zG zQ zE (c5 zD zB zU kW (c5 xG kY jA zBH (c5 zOz yGQ yE0 zIB (c3 zUG yFx (c2 zDi @zBs)))));show W CC 0 61 (zA 83) _ ⟨[(0,_),(1,_)],[]⟩ _)
 obtain⟨a1,h1,p1,l1⟩:=zI1 127 yB4 (fun x=>zZ _ x (by decide)) (fun a b ha hb=>zWn a b ha.1 hb.1) nl cl nl2 cl2 kl nb hk;obtain⟨a2,h2,p2,l2⟩:=zI1 128 zSF (fun x=>zZ _ x (by decide)) (fun a b ha hb=>zGN a b ha.1 hb.1) nl cl nl2 cl2 kl nb hk;obtain⟨a3,h3,p3,l3⟩:=zI1 129 yCP (fun x=>zZ _ x (by decide)) (fun a b ha hb=>zV2 a b ha.1 hb.1) nl cl nl2 cl2 kl nb hk;obtain⟨a4,h4,p4,l4⟩:=zI1 130 yC3 (fun x=>zZ _ x (by decide)) (fun a b ha hb=>zWZ a b ha.1 hb.1) nl cl nl2 cl2 kl nb hk;obtain⟨a5,h5,p5,l5⟩:=zGJ 132 yBU (fun x=>zZ _ x (by decide)) nl cl nl2 cl2 kl (nb.map yN) 1 (by decide) hk (fun l x y hl hv=>by
  match l,hl,hv with
  |[a],_,hv=>exact zWS a x y (hv a (by simp)).1)
 have h5:Om CC 131 [.t (.agg [.sl nl cl (kl.map Ans.c),.sl nl2 cl2 (nb.map yN)]),.t (.int .i64 1),.t (.fn 132)] []=_:=h5;obtain⟨a6,h6,p6,l6⟩:=zGJ 135 yBr (fun x=>zZ _ x (by decide)) nl cl nl2 cl2 kl (nb.map yN) kl.length hl hk (fun l x y hl' hv=>zRQ l x y (by omega) hv);obtain⟨a7,h7,p7,l7⟩:=zGJ 137 yBM (fun x=>zZ _ x (by decide)) nl cl nl2 cl2 kl (nb.map yN) kl.length hl hk (fun l x y hl' hv=>zTP l x y (by omega) hv);obtain⟨a8,h8,p8,l8⟩:=zGJ 139 yD8 (fun x=>zZ _ x (by decide)) nl cl nl2 cl2 kl (nb.map yN) 1 (by decide) hk (fun l x y hl hv=>by
  match l,hl,hv with
  |[a],_,hv=>exact yAQ a x y (hv a (by simp)))
 have h8:Om CC 131 [.t (.agg [.sl nl cl (kl.map Ans.c),.sl nl2 cl2 (nb.map yN)]),.t (.int .i64 1),.t (.fn 139)] []=_:=h8;obtain⟨a9,h9,p9,l9⟩:=zFs 140 yCB (fun x=>zZ _ x (by decide)) 1 2 (by decide) (fun l x y hl hv=>by
  match l,hl,hv with
  |[a,b],_,hv=>exact zWi a b x y (hv b (by simp)).1) nl cl nl2 cl2 kl nb hk
 have h9:Om CC 121 [.t (.agg [.sl nl cl (kl.map Ans.c),.sl nl2 cl2 (nb.map yN)]),.t (.int .i64 2),.t (.int .u8 1),.t (.fn 140)] []=_:=h9;obtain⟨a10,h10,p10,l10⟩:=zFs 141 yB7 (fun x=>zZ _ x (by decide)) 3 1 (by decide) (fun l x y hl hv=>by
  match l,hl,hv with
  |[a],_,hv=>exact zWL a x y (hv a (by simp))) nl cl nl2 cl2 kl nb hk
 have h10:Om CC 121 [.t (.agg [.sl nl cl (kl.map Ans.c),.sl nl2 cl2 (nb.map yN)]),.t (.int .i64 1),.t (.int .u8 3),.t (.fn 141)] []=_:=h10;obtain⟨a11,h11,p11,l11⟩:=zFs 143 yCQ (fun x=>zZ _ x (by decide)) 3 1 (by decide) (fun l x y hl hv=>by
  match l,hl,hv with
  |[a],_,hv=>exact zTH a x y (hv a (by simp))) nl cl nl2 cl2 kl nb hk
 have h11:Om CC 121 [.t (.agg [.sl nl cl (kl.map Ans.c),.sl nl2 cl2 (nb.map yN)]),.t (.int .i64 1),.t (.int .u8 3),.t (.fn 143)] []=_:=h11;obtain⟨a12,h12,p12,l12⟩:=zSL nl cl nl2 cl2 kl (nb.map yN) hk;have rr:Hid (Lf 2 kl (LfO1 184 (.fn 127)) a1∧Lf 2 kl (LfO1 184 (.fn 128)) a2∧Lf 2 kl (LfO1 184 (.fn 129)) a3∧Lf 2 kl (LfO1 184 (.fn 130)) a4∧Lf 1 kl (LfO0 132) a5∧Lf kl.length kl (LfO0 135) a6∧Lf kl.length kl (LfO0 137) a7∧Lf 1 kl (LfO0 139) a8∧Lf 2 kl (LfO2 181 (.int .u8 1) (.fn 140)) a9∧Lf 1 kl (LfO2 181 (.int .u8 3) (.fn 141)) a10∧Lf 1 kl (LfO2 181 (.int .u8 3) (.fn 143)) a11∧a12=zBk (vB (getA kl 0)) (getA kl 1) (getA kl 2)):=⟨l1,l2,l3,l4,l5,l6,l7,l8,l9,l10,l11,l12⟩
 clear hk l1 l2 l3 l4 l5 l6 l7 l8 l9 l10 l11 l12
 (repeat' first|refine gA ?_|refine gT ?_ ?_<;>intro hv<;>try cases hv;done|fail)
 all_goals refine aJ ?_
 all_goals first
  |exact⟨a1,⟨rfl,rfl⟩,p1,.oadd (by clear F_;simp only[beq_iff_eq,beq_eq_false_iff_ne] at *;omega) rr.h.1⟩
  |exact⟨a2,⟨rfl,rfl⟩,p2,.osub (by clear F_;simp only[beq_iff_eq,beq_eq_false_iff_ne] at *;omega) rr.h.2.1⟩
  |exact⟨a3,⟨rfl,rfl⟩,p3,.omul (by clear F_;simp only[beq_iff_eq,beq_eq_false_iff_ne] at *;omega) rr.h.2.2.1⟩
  |exact⟨a4,⟨rfl,rfl⟩,p4,.odiv (by clear F_;simp only[beq_iff_eq,beq_eq_false_iff_ne] at *;omega) rr.h.2.2.2.1⟩
  |exact⟨a5,⟨rfl,rfl⟩,p5,.oneg (by clear F_;simp only[beq_iff_eq,beq_eq_false_iff_ne] at *;omega) rr.h.2.2.2.2.1⟩
  |exact⟨a6,⟨rfl,rfl⟩,p6,.omin (by clear F_;simp only[beq_iff_eq,beq_eq_false_iff_ne] at *;omega) rr.h.2.2.2.2.2.1⟩
  |exact⟨a7,⟨rfl,rfl⟩,p7,.omax (by clear F_;simp only[beq_iff_eq,beq_eq_false_iff_ne] at *;omega) rr.h.2.2.2.2.2.2.1⟩
  |exact⟨a8,⟨rfl,rfl⟩,p8,.oabs (by clear F_;simp only[beq_iff_eq,beq_eq_false_iff_ne] at *;omega) rr.h.2.2.2.2.2.2.2.1⟩
  |exact⟨a9,⟨rfl,rfl⟩,p9,.omod (by clear F_;simp only[beq_iff_eq,beq_eq_false_iff_ne] at *;omega) rr.h.2.2.2.2.2.2.2.2.1⟩
  |exact⟨a10,⟨rfl,rfl⟩,p10,.olen (by clear F_;simp only[beq_iff_eq,beq_eq_false_iff_ne] at *;omega) rr.h.2.2.2.2.2.2.2.2.2.1⟩
  |exact⟨a11,⟨rfl,rfl⟩,p11,.oup (by clear F_;simp only[beq_iff_eq,beq_eq_false_iff_ne] at *;omega) rr.h.2.2.2.2.2.2.2.2.2.2.1⟩
  |exact⟨a12,⟨rfl,rfl⟩,p12,by rw[rr.h.2.2.2.2.2.2.2.2.2.2.2];exact .oif (by clear F_;simp only[beq_iff_eq,beq_eq_false_iff_ne] at *;omega)⟩
  |exact⟨Fail 2,⟨rfl,rfl⟩,zEC _,.ono (by clear F_;simp only[beq_iff_eq,beq_eq_false_iff_ne] at *;omega)⟩
open Classical in
noncomputable def vN(op:Int)(kl:List Ans)(nb:List Bool):Ans×Bool :=
 if h:∀a ∈ kl,AOK a then (zCc op kl.isEmpty kl.isEmpty kl.isEmpty kl.isEmpty kl nb h).choose else (AZero,false)
open Classical in
noncomputable def kX(op:Int)(kl:List Ans)(nb:List Bool):Ans :=
 if h:(∀a ∈ kl,AOK a)∧kl.length<4294967295 then (zE7 op kl.isEmpty kl.isEmpty kl.isEmpty kl.isEmpty kl nb h.1 h.2).choose else AZero
def zMS (op:Int) (kl:List Ans) (nb:List Bool) (b:Bool) (hb:kl.isEmpty=b) (h:∀a ∈ kl,AOK a) :
  Om CC 82 [.t (.int .u8 op),.t (.agg [.sl b b (kl.map Ans.c),.sl b b (nb.map yN)])] []=some (.val (.tup [.t (.agg [.int .u8 (vN op kl nb).1.v.k,.int .i64 (vN op kl nb).1.v.n,.str (vN op kl nb).1.v.s,.int .i64 (vN op kl nb).1.e]),.t (.bool (vN op kl nb).2)]),[]):=by
 subst hb;unfold vN;rw[dif_pos h];exact(zCc op _ _ _ _ kl nb h).choose_spec.1
def zWV(op:Int)(kl:List Ans)(nb:List Bool):AOK (vN op kl nb).1:=by
 unfold vN;split
 ·rename_i h;exact(zCc op _ _ _ _ kl nb h).choose_spec.2.1
 exact yR
def zVB(op:Int)(kl:List Ans)(nb:List Bool)(ho:op=7∨op=8∨op=9∨op=10∨op=11∨op=12):TB (if (vN op kl nb).2 then (vN op kl nb).1 else kX op kl nb):=by
 by_cases h:∀a ∈ kl,AOK a
 ·have:=(zCc op kl.isEmpty kl.isEmpty kl.isEmpty kl.isEmpty kl nb h).choose_spec.2.2.1 ho;have e:vN op kl nb=(zCc op kl.isEmpty kl.isEmpty kl.isEmpty kl.isEmpty kl nb h).choose:=by unfold vN;rw[dif_pos h]
  rw[e,this.1,if_pos rfl];exact this.2
 have e:vN op kl nb=(AZero,false):=by unfold vN;rw[dif_neg h]
 have e2:kX op kl nb=AZero:=by unfold kX;rw[dif_neg (fun x=>h x.1)]
 rw[e,e2];exact zCh
def zNx (op:Int) (kl:List Ans) (nb:List Bool) (b:Bool) (hb:kl.isEmpty=b) (h:∀a ∈ kl,AOK a) (hl:kl.length<4294967295) :
  Om CC 83 [.t (.int .u8 op),.t (.agg [.sl b b (kl.map Ans.c),.sl b b (nb.map yN)])] []=some (.val (.t (.agg [.int .u8 (kX op kl nb).v.k,.int .i64 (kX op kl nb).v.n,.str (kX op kl nb).v.s,.int .i64 (kX op kl nb).e])),[]):=by
 subst hb;unfold kX;rw[dif_pos ⟨h,hl⟩];exact(zE7 op _ _ _ _ kl nb h hl).choose_spec.1
def zV3(op:Int)(kl:List Ans)(nb:List Bool):AOK (kX op kl nb):=by
 unfold kX;split
 ·rename_i h;exact(zE7 op _ _ _ _ kl nb h.1 h.2).choose_spec.2.1
 exact yR
def zOI(op:Int)(kl:List Ans)(nb:List Bool)(h:∀a ∈ kl,AOK a):TrR kl.isEmpty kl.isEmpty nb kl op (vN op kl nb):=by
 unfold vN;rw[dif_pos h];exact(zCc op _ _ _ _ kl nb h).choose_spec.2.2.2
def zOc(op:Int)(kl:List Ans)(nb:List Bool)(h:∀a ∈ kl,AOK a)(hl:kl.length<4294967295):OtR kl op (kX op kl nb):=by
 unfold kX;rw[dif_pos ⟨h,hl⟩];exact(zE7 op _ _ _ _ kl nb h hl).choose_spec.2.2
def yDh(name:List Nat)(l:List Bind)(h:∀b ∈ l,VOK b.v):AOK (varA name l):=by
 unfold varA;split
 ·rename_i i hi;refine zO9 _ ?_;rw[List.getD_eq_getElem?_getD];cases hi':(l.map Bind.v)[i]? with
  |none=>exact yR
  |some v =>
   obtain⟨b,hb,rfl⟩:=List.mem_map.1 (List.mem_of_getElem? hi');exact h b hb
 exact zEC _
def yAg(op:Int)(v:Val)(name:List Nat)(self:Val)(l:List Bind)(hv:VOK v)(hs:VOK self)(h:∀b ∈ l,VOK b.v):AOK (uJ op v name self l).1:=by
 unfold uJ;split
 ·exact zO9 _ hv
 split
 ·exact zO9 _ hs
 split
 ·exact yDh _ _ h
 exact yR
def SNode.nul(x:SNode):Bool:=x.op==1&&x.v.k==0
noncomputable def kidA(al:List Ans)(ns:List SNode)(at_:Int):Ans×Bool :=
 if at_<0∨at_ ≥ al.length then (AZero,false) else (getA al at_.toNat,match ns[at_.toNat]? with
  |some x=>x.nul
  |none=>false)
noncomputable def zDF(al:List Ans)(ns:List SNode)(x:SNode)(self:Val)(vars:List Bind):Ans :=
 if (uJ x.op x.v x.name self vars).2 then (uJ x.op x.v x.name self vars).1
 else if (vN x.op (x.kids.map fun k=>(kidA al ns k).1) (x.kids.map fun k=>(kidA al ns k).2)).2 then (vN x.op (x.kids.map fun k=>(kidA al ns k).1) (x.kids.map fun k=>(kidA al ns k).2)).1
 else kX x.op (x.kids.map fun k=>(kidA al ns k).1) (x.kids.map fun k=>(kidA al ns k).2)
noncomputable def wH(ns:List SNode)(self:Val)(vars:List Bind):Nat→List Ans
 |0=>[]
 |i+1=>wH ns self vars i++[match ns[i]? with
  |some x=>zDF (wH ns self vars i) ns x self vars
  |none=>AZero]
noncomputable def zFT(l:List Ans):Ans:=l.getLast?.getD AZero
noncomputable def wL(ns:List SNode)(self:Val)(vars:List Bind):Ans:=zFT (wH ns self vars ns.length)
def vF(ns:List SNode)(self:Val)(vars:List Bind):∀i,(wH ns self vars i).length=i
 |0=>rfl
 |i+1=>by simp [wH,vF ns self vars i]
def zPm(al:List Ans)(ns:List SNode)(k:Int)(h:∀a ∈ al,AOK a):AOK (kidA al ns k).1:=by
 unfold kidA;split
 ·exact yR
 exact zBP h _
def zYu(al:List Ans)(ns:List SNode)(x:SNode)(self:Val)(vars:List Bind)(hx:VOK x.v)(hs:VOK self)(hv:∀b ∈ vars,VOK b.v):AOK (zDF al ns x self vars):=by
 unfold zDF;split
 ·exact yAg _ _ _ _ _ hx hs hv
 split
 ·exact zWV _ _ _
 exact zV3 _ _ _
def zGz(ns:List SNode)(self:Val)(vars:List Bind)(hn:∀x ∈ ns,VOK x.v)(hs:VOK self)(hv:∀b ∈ vars,VOK b.v):∀i,∀a ∈ wH ns self vars i,AOK a
 |0,a,h=>by cases h
 |i+1,a,h=>by
  rcases List.mem_append.1 h with h|h
  ·exact zGz ns self vars hn hs hv i a h
  rw[List.mem_singleton.1 h];cases hx:ns[i]? with
  |none=>exact yR
  |some x=>exact zYu _ _ _ _ _ (hn x (List.mem_of_getElem? hx)) hs hv
def yAo(l:List Ans)(h:∀a ∈ l,AOK a):AOK (zFT l):=by
 unfold zFT;cases hl:l.getLast? with
 |none=>exact yR
 |some a=>exact h a (List.mem_of_getLast? hl)
def zKR(l:List Ans)(a:Ans):zFT (l++[a])=a:=by simp [zFT]
def zHv(ts:List Tree):∀n,qG (List.replicate n (ts.map AV.t))=some (List.replicate n ts)
 |0=>rfl
 |n+1=>by
  have h:∀l:List Tree,trees (l.map AV.t)=some l:=fun l=>by
   induction l with
   |nil=>rfl
   |cons a l ih=>simp [trees,ih]
  simp only[List.replicate_succ,qG,h,zHv ts n]
def zT6(ts:List Tree)(s n:Nat):zAp s (List.replicate n (ts.map AV.t))=.arr s 0 false (List.replicate n ts):=by
 unfold zAp;rw[zHv]
def zVD (T:Sl Node) (self:Val) (vnl vcl:Bool) (vars:List Bind) (hT:T.l.length<4294967295) (hK:∀x ∈ T.l,x.kids.l.length<4294967295) (hvl:vars.length<9223372036854775808)
  (hnv:∀x ∈ T.l,VOK x.v) (hsv:VOK self) (hvv:∀b ∈ vars,VOK b.v) :
  Om CC 52 [.t (.sl T.nl T.cl (T.l.map Node.c)),.t (.agg [.int .u8 self.k,.int .i64 self.n,.str self.s]),.t (.sl vnl vcl (vars.map Bind.c))] [] =
   some (.val (.tup [.t (.agg [.int .u8 (wL (T.l.map Node.s) self vars).v.k,.int .i64 (wL (T.l.map Node.s) self vars).v.n,.str (wL (T.l.map Node.s) self vars).v.s]),.t (.int .i64 (wL (T.l.map Node.s) self vars).e)]),[]):=by
 refine zK yEL rfl ?_
 (have F_:=c5 zF zG zQ zE (c5 zD zI uH zB (c5 vV zO zL zN (c5 zU kW xG kY (c5 jA yGA yGK yGW yHj))));show W CC 0 114 (zA 52) _ ⟨[(0,_),(1,_),(2,_)],[]⟩ _)
 have hmk:decide (T.l.length<4294967296)=true:=by simp;omega
 have hrep:=zT6 AZero.c 4 T.l.length;simp only[AZero,Zero,Ans.c,List.map_cons,List.map_nil] at hrep;have hev:=zGz (T.l.map Node.s) self vars (fun x hx=>by obtain⟨y,hy,rfl⟩:=List.mem_map.1 hx;exact hnv y hy) hsv hvv;have htl:qG (List.replicate T.l.length [.t (.int .u8 0),.t (.int .i64 0),.t (.str []),.t (.int .i64 0)])=some (List.replicate T.l.length AZero.c):=zHv AZero.c T.l.length
 repeat' (first|(with_reducible first|apply aA|apply uX|apply jN|apply zAy|apply zAC|apply uF|apply jI|apply kK|apply jP|apply uD|apply zAz)|(refine zAB (by kernel_rfl) ?_)|(with_reducible first|apply jJ|apply jL|apply kH|apply jO|apply jK|apply zCU|apply zBn|apply zBq|apply zCr|apply zEk|apply zCt|apply zBu)|((with_reducible apply yFn);(focus kernel_rfl))|((with_reducible apply yCq);(focus kernel_rfl);(focus kernel_rfl))|(with_reducible first|apply zQk|apply zP2)|((with_reducible apply zQw);(refine⟨by kernel_rfl,?_⟩))|((with_reducible refine zUe (fun hg=>?_) (fun hg=>?_))<;>first|(cases hg;done)|skip)|((with_reducible refine zVu (fun hg=>?_) (fun hg=>?_))<;>first|(cases hg;done)|skip)|((with_reducible refine zXn (fun hg=>?_) (fun hg=>?_))<;>first|(cases hg;done)|skip)|((with_reducible refine zXO (fun hg=>?_) (fun hg=>?_))<;>first|(cases hg;done)|skip)|((with_reducible apply yGp);(focus (simp only[zAt,yE,Nat.le_refl,true_or,beq_true,beq_false,Bool.true_beq,Bool.false_beq,decide_true,decide_false,Int.ofNat_eq_natCast,List.length_map,List.getElem?_map,Option.map_some,wanted,exec1,zAq,uY,xBox,qS,wB,xLen,uQ,wK,xM,uZ,cellsOf,zM,opds,qA,get,putT,ret,retO,lit,lit1,patch,put1,load,loadCells,cut,zW,mkAgg,trees,nth,lenOf,indexAddr,storeAt,upd,splice,wO,wU,zAm,uM,uL,kA,kB,kE,kM,kN,zAf,convert,zAQ,zA0,zAP,zAI,zB4,zA1,zAU,zAS,zAK,zAN,zAX,kO,qU,qZ,qY,qW,kC,kD,qV,qX,uN,qL,Nat.beq,beq_self_eq_true,Nat.zero_add,Nat.add_zero,List.toList_toArray,List.map_cons,List.map_nil,List.length_cons,List.length_nil,List.take,List.drop,List.all_cons,List.all_nil,List.cons_append,List.nil_append,List.append_nil,Bool.and_true,Bool.true_and,Bool.not_true,Bool.not_false,Bool.and_self,if_true,if_false,reduceIte,Nat.reduceAdd,Nat.reduceLeDiff,Nat.reduceEqDiff,Sl.t,Val.c,Slot.c,Tpl.c,Fact.c,Bind.c,Node.c,Test.c,STest.c,Pat.c,intC,and_self,true_and,and_true,b00,b01,b02,b03,b04,b10,b11,b12,b13,b14,b20,b21,b22,b23,b24,b30,b31,b32,b33,b34,b40,b41,b42,b43,b44,zAk,uC,reach,wQ,refs,vY,catMap,depth,sub,sub1,renL,ren,renO,mem,place,fresh,xL,plain,zB2,back,zDq,zB7,vD,Way.id,Way.ver,vO,zCJ,getN,view,yO,xB,zCY,zZ,ne_eq,not_false_eq_true,cond_true,cond_false,zCe,Option.getD_some,elems,yE,wI,yV,xV,xV.go,zAp,qG,setN,List.replicate,Nat.mul_one,Nat.reduceMul,Nat.reduceLT,append,added,lens,kP,zCA,zDD,zFt,zEI,mfind,jU,zAZ,UInt8.reduceToNat,zBR,Ab.bound,Int.toNat_natCast,bne_self_eq_false,true_or,Nat.reduceLT,one1,zAG,deferred,jE,yI,zB5,jT,zBM,kQ,qM,vW,zCu,zCK,zEe,zEn,qK,Bool.or_true,Bool.or_false,Bool.true_or,Bool.false_or,F_, *];exact rfl)))|((with_reducible apply yGI);(focus (simp only[zAt,yE,Nat.le_refl,true_or,beq_true,beq_false,Bool.true_beq,Bool.false_beq,decide_true,decide_false,Int.ofNat_eq_natCast,List.length_map,List.getElem?_map,Option.map_some,wanted,exec1,zAq,uY,xBox,qS,wB,xLen,uQ,wK,xM,uZ,cellsOf,zM,opds,qA,get,putT,ret,retO,lit,lit1,patch,put1,load,loadCells,cut,zW,mkAgg,trees,nth,lenOf,indexAddr,storeAt,upd,splice,wO,wU,zAm,uM,uL,kA,kB,kE,kM,kN,zAf,convert,zAQ,zA0,zAP,zAI,zB4,zA1,zAU,zAS,zAK,zAN,zAX,kO,qU,qZ,qY,qW,kC,kD,qV,qX,uN,qL,Nat.beq,beq_self_eq_true,Nat.zero_add,Nat.add_zero,List.toList_toArray,List.map_cons,List.map_nil,List.length_cons,List.length_nil,List.take,List.drop,List.all_cons,List.all_nil,List.cons_append,List.nil_append,List.append_nil,Bool.and_true,Bool.true_and,Bool.not_true,Bool.not_false,Bool.and_self,if_true,if_false,reduceIte,Nat.reduceAdd,Nat.reduceLeDiff,Nat.reduceEqDiff,Sl.t,Val.c,Slot.c,Tpl.c,Fact.c,Bind.c,Node.c,Test.c,STest.c,Pat.c,intC,and_self,true_and,and_true,b00,b01,b02,b03,b04,b10,b11,b12,b13,b14,b20,b21,b22,b23,b24,b30,b31,b32,b33,b34,b40,b41,b42,b43,b44,zAk,uC,reach,wQ,refs,vY,catMap,depth,sub,sub1,renL,ren,renO,mem,place,fresh,xL,plain,zB2,back,zDq,zB7,vD,Way.id,Way.ver,vO,zCJ,getN,view,yO,xB,zCY,zZ,ne_eq,not_false_eq_true,cond_true,cond_false,zCe,Option.getD_some,elems,yE,wI,yV,xV,xV.go,zAp,qG,setN,List.replicate,Nat.mul_one,Nat.reduceMul,Nat.reduceLT,append,added,lens,kP,zJE,zLm,zKJ,uA,foot,zI0,names,zAg,zO6,zMK,mfind,jU,zAZ,UInt8.reduceToNat,zBR,Ab.bound,Int.toNat_natCast,bne_self_eq_false,true_or,Nat.reduceLT,one1,zAG,deferred,jE,yI,zB5,jT,zBM,kQ,qM,vW,zCu,zCK,zEe,zEn,qK,Bool.or_true,Bool.or_false,Bool.true_or,Bool.false_or,F_, *];exact rfl)))|((refine zGE (by(simp only[zM,get,lit,lit1,Nat.beq, *];exact rfl)) (fun hv=>?_) (fun hv=>?_))<;>first|(cases hv;done)|skip))
 refine zY (α:=Nat×List Ans×Ans) (fun a=>⟨[(0,.t (.sl T.nl T.cl (T.l.map Node.c))),(2,.t (.sl vnl vcl (vars.map Bind.c))),(4,.box 0 0),(6,.box 1 0),(8,.hs 2 0),(9,.box 3 0),(20,.t (.sl T.nl T.cl (T.l.map Node.c))),(21,.t (.int .i64 T.l.length)),(22,.t (.int .i64 a.1))],
   [.box [.t (.int .u8 self.k),.t (.int .i64 self.n),.t (.str self.s)],.box (Zero.c.map .t),.arr 4 0 false (a.2.1.map Ans.c),.box (a.2.2.c.map .t)]⟩)
  (fun a=>T.l.length - a.1) (fun a=>a.1≤T.l.length∧a.2.1=wH (T.l.map Node.s) self vars a.1++List.replicate (T.l.length - a.1) AZero∧a.2.2=zFT (wH (T.l.map Node.s) self vars a.1))
  (0,List.replicate T.l.length AZero,AZero) (by(simp only[xN,wF,F_,tidy,zCk,canon,reach,wQ,refs,vY,catMap,depth,renL,ren,renO,sub,sub1,upto,mem,place,fresh,cond_true,Ab.get,nth,List.map,List.zip_cons_cons,List.zip_nil_left,List.zip_nil_right,List.take,List.append_nil,List.nil_append,List.cons_append,Bool.and_true,vI,decide_true,decide_false,reduceIte,Nat.reduceEqDiff,Nat.beq,Sl.t,Val.c,Slot.c,Tpl.c,Fact.c,Bind.c,Node.c,Test.c,STest.c,Pat.c,intC,AZero,Zero,Ans.c,List.map_replicate]<;>exact rfl)) ⟨Nat.zero_le _,by simp [wH],rfl⟩ ?_
 rintro⟨i,all,last⟩ ⟨hi,hall,hlast⟩
 try dsimp only at hi hall hlast
 simp only[Zero,List.map_cons,List.map_nil,Val.c];have hall':all.length=T.l.length:=by rw[hall];simp [vF];omega
 by_cases hi':i<T.l.length
 ·have hw:=wI64 i (by omega);have he:T.l[i]?=some T.l[i]:=List.getElem?_eq_getElem hi';have hd:decide ((i:Int)<T.l.length)=true:=by simpa using hi'
  have hkl:=hK T.l[i] (List.getElem_mem hi');have hns:(T.l.map Node.s)[i]?=some T.l[i].s:=by rw[List.getElem?_map,he];rfl
  have hnx:=hnv T.l[i] (List.getElem_mem hi');generalize T.l[i]=x at he hkl hns hnx;clear hmk hrep;have hall2:Hid _:=⟨hall⟩
  have hlast2:Hid _:=⟨hlast⟩
  clear hall hlast
  (repeat' first|refine gA ?_|refine gT ?_ ?_<;>intro hv<;>try cases hv;done|fail)
  refine zY (α:=Nat×Bool×List Ans×List Bool) (fun a=>⟨[(0,.t (.sl T.nl T.cl (T.l.map Node.c))),(2,.t (.sl vnl vcl (vars.map Bind.c))),(4,.box 0 0),(6,.box 1 0),(8,.hs 2 0),(9,.box 3 0),(10,.t (.int .i64 (i:Int))),(11,.box 4 0),(12,.box 5 0),(20,.t (.sl T.nl T.cl (T.l.map Node.c))),(21,.t (.int .i64 T.l.length)),(22,.t (.int .i64 i)),(28,.t (.sl x.kids.nl x.kids.cl (x.kids.l.map intC))),(29,.t (.int .i64 x.kids.l.length)),(30,.t (.int .i64 a.1))],
   match a.2.1 with
   |true=>[.box [.t (.int .u8 self.k),.t (.int .i64 self.n),.t (.str self.s)],.box (Zero.c.map .t),.arr 4 0 false (all.map Ans.c),.box (last.c.map .t),.box ((Node.c x).map .t),.box [.hs 6 0,.hs 7 0],.arr 4 0 false (a.2.2.1.map Ans.c),.arr 1 0 false (a.2.2.2.map yN)]
   |false=>[.box [.t (.int .u8 self.k),.t (.int .i64 self.n),.t (.str self.s)],.box (Zero.c.map .t),.arr 4 0 false (all.map Ans.c),.box (last.c.map .t),.box ((Node.c x).map .t),.box [.t (.sl true true []),.t (.sl true true [])]]⟩)
   (fun a=>x.kids.l.length - a.1) (fun a=>a.1≤x.kids.l.length∧a.2.1=decide (0<a.1)∧a.2.2.1=(x.kids.l.take a.1).map (fun k=>(kidA (wH (T.l.map Node.s) self vars i) (T.l.map Node.s) k).1)∧a.2.2.2=(x.kids.l.take a.1).map (fun k=>(kidA (wH (T.l.map Node.s) self vars i) (T.l.map Node.s) k).2))
   (0,false,[],[]) (by(have X_:=c2 @Zero.eq_1 @Ans.c.eq_1;exact aTdX)) ⟨Nat.zero_le _,rfl,rfl,rfl⟩ ?_
  rintro⟨j,st,kl,nb⟩ ⟨hj,hst,hkls,hnbs⟩
  try dsimp only at hj hst hkls hnbs
  simp only[Zero,List.map_cons,List.map_nil,Val.c]
  by_cases hj':j<x.kids.l.length
  ·have hwj:=wI64 j (by omega);have hej:x.kids.l[j]?=some x.kids.l[j]:=List.getElem?_eq_getElem hj';have hdj:decide ((j:Int)<x.kids.l.length)=true:=by simpa using hj'
   have htk:x.kids.l.take (j+1)=x.kids.l.take j++[x.kids.l[j]]:=by rw[List.take_add_one,hej];rfl
   have hklen:kl.length=j:=by rw[hkls];simp;omega
   have hnlen:nb.length=j:=by rw[hnbs];simp;omega
   have hle:lens 4 (kl.map Ans.c)=true:=vQ Ans.c 4 (fun a=>rfl) kl;have hle2:lens 1 (nb.map yN)=true:=vQ yN 1 (fun a=>rfl) nb;have hsm:decide (j+1<4294967296)=true:=by simp;omega
   generalize x.kids.l[j]=k at hej htk;have hq:∀q:Ans×Bool,kidA (wH (T.l.map Node.s) self vars i) (T.l.map Node.s) k=q→(kl++[q.1]=(x.kids.l.take (j+1)).map (fun k=>(kidA (wH (T.l.map Node.s) self vars i) (T.l.map Node.s) k).1))∧(nb++[q.2]=(x.kids.l.take (j+1)).map (fun k=>(kidA (wH (T.l.map Node.s) self vars i) (T.l.map Node.s) k).2)):=fun q hq=>by
    rw[htk,hkls,hnbs];simp [hq]
   clear hkls hnbs htk;have hev2:Hid _:=⟨hev⟩
   clear hev;cases hk0:decide (k<0) with
   |true =>
    have hq2:Hid _:=⟨hq (AZero,false) (by unfold kidA;rw[if_pos];exact .inl (by simpa using hk0))⟩
    clear hq hns;cases st with
    |true =>
     clear hst
     (repeat' first|refine gA ?_|refine gT ?_ ?_<;>intro hv<;>try cases hv;done|fail)
     refine zC (j+1,true,kl++[AZero],nb++[false]) (by first|omega|(dsimp only;omega)) ⟨by first|omega|(dsimp only;omega),by simp,hq2.h.1,hq2.h.2⟩ (by(have X_:=c5 @mapA @yN.eq_1 @AZero.eq_1 @Zero.eq_1 @Ans.c.eq_1;exact aTdX))
    |false =>
     have hj0:j=0:=by simpa using hst
     subst hj0;obtain rfl:kl=[]:=List.length_eq_zero_iff.1 hklen;obtain rfl:nb=[]:=List.length_eq_zero_iff.1 hnlen;have hej:x.kids.l[0]?=some _:=hej;clear hst hklen hnlen hle hle2 hsm
     (repeat' first|refine gA ?_|refine gT ?_ ?_<;>intro hv<;>try cases hv;done|fail)
     refine zC (1,true,[AZero],[false]) (by first|omega|(dsimp only;omega)) ⟨by first|omega|(dsimp only;omega),rfl,hq2.h.1,hq2.h.2⟩ (by(have X_:=c5 @mapA @yN.eq_1 @AZero.eq_1 @Zero.eq_1 @Ans.c.eq_1;exact aTdX))
   |false =>
    cases hk1:decide (k ≥ (i:Int)) with
    |true =>
     have hq2:Hid _:=⟨hq (AZero,false) (by unfold kidA;rw[if_pos];exact .inr (by rw[vF];simpa using hk1))⟩
     clear hq hns;cases st with
     |true =>
      clear hst
      (repeat' first|refine gA ?_|refine gT ?_ ?_<;>intro hv<;>try cases hv;done|fail)
      refine zC (j+1,true,kl++[AZero],nb++[false]) (by first|omega|(dsimp only;omega)) ⟨by first|omega|(dsimp only;omega),by simp,hq2.h.1,hq2.h.2⟩ (by(have X_:=c5 @mapA @yN.eq_1 @AZero.eq_1 @Zero.eq_1 @Ans.c.eq_1;exact aTdX))
     |false =>
      have hj0:j=0:=by simpa using hst
      subst hj0;obtain rfl:kl=[]:=List.length_eq_zero_iff.1 hklen;obtain rfl:nb=[]:=List.length_eq_zero_iff.1 hnlen;have hej:x.kids.l[0]?=some _:=hej;clear hst hklen hnlen hle hle2 hsm
      (repeat' first|refine gA ?_|refine gT ?_ ?_<;>intro hv<;>try cases hv;done|fail)
      refine zC (1,true,[AZero],[false]) (by first|omega|(dsimp only;omega)) ⟨by first|omega|(dsimp only;omega),rfl,hq2.h.1,hq2.h.2⟩ (by(have X_:=c5 @mapA @yN.eq_1 @AZero.eq_1 @Zero.eq_1 @Ans.c.eq_1;exact aTdX))
    |false =>
     have h0k:0≤k:=by simpa using hk0
     obtain⟨q,rfl⟩:=Int.eq_ofNat_of_zero_le h0k;have hqi:q<i:=by
                 have:¬ ((q:Int) ≥ i):=by simpa using hk1
                 omega
     have hqT:q<T.l.length:=by omega
     have heq:T.l[q]?=some T.l[q]:=List.getElem?_eq_getElem hqT;have hnq:(T.l.map Node.s)[q]?=some T.l[q].s:=by rw[List.getElem?_map,heq];rfl
     have hga:all[q]?=some (getA (wH (T.l.map Node.s) self vars i) q):=by
      rw[hall2.h,List.getElem?_append_left (by rw[vF];exact hqi)];unfold getA;rw[List.getD_eq_getElem?_getD,List.getElem?_eq_getElem (by rw[vF];exact hqi)];rfl
     have hkid:kidA (wH (T.l.map Node.s) self vars i) (T.l.map Node.s) (q:Int)=(getA (wH (T.l.map Node.s) self vars i) q,T.l[q].s.nul):=by
      unfold kidA;rw[if_neg (by rw[vF];omega)];simp only[Int.toNat_natCast,hnq]
     generalize T.l[q]=y at heq hkid;have hq2:=hq _ hkid;generalize getA (wH (T.l.map Node.s) self vars i) q=ga at hga hq2;have hqT2:(q:Int)<(T.l.length:Int):=by omega
     have hnth:nth (all.map Ans.c) q=some ga.c:=by rw[yP,List.getElem?_map,hga];rfl
     obtain⟨⟨gk,gn,gs⟩,ge⟩:=ga;simp only[Ans.c] at hnth;clear hq hns hnq hkid;have hnull:y.s.nul=(y.op==1&&y.v.k==0):=rfl;rw[hnull] at hq2;clear hnull;cases hop:y.op==1 with
     |true =>
      rw[hop,Bool.true_and] at hq2;have hq2:Hid _:=⟨hq2⟩
      cases st with
      |true =>
       clear hst
       (repeat' first|refine gA ?_|refine gT ?_ ?_<;>intro hv<;>try cases hv;done|fail)
       refine zC (j+1,true,kl++[⟨⟨gk,gn,gs⟩,ge⟩],nb++[y.v.k==0]) (by first|omega|(dsimp only;omega)) ⟨by first|omega|(dsimp only;omega),by simp,hq2.h.1,hq2.h.2⟩ (by(have X_:=c5 @mapA @yN.eq_1 @AZero.eq_1 @Zero.eq_1 (c2 @Ans.c.eq_1 @Int.toNat_natCast);exact aTdX))
      |false =>
       have hj0:j=0:=by simpa using hst
       subst hj0;obtain rfl:kl=[]:=List.length_eq_zero_iff.1 hklen;obtain rfl:nb=[]:=List.length_eq_zero_iff.1 hnlen;have hej:x.kids.l[0]?=some _:=hej;clear hst hklen hnlen hle hle2 hsm
       (repeat' first|refine gA ?_|refine gT ?_ ?_<;>intro hv<;>try cases hv;done|fail)
       refine zC (1,true,[⟨⟨gk,gn,gs⟩,ge⟩],[y.v.k==0]) (by first|omega|(dsimp only;omega)) ⟨by first|omega|(dsimp only;omega),rfl,hq2.h.1,hq2.h.2⟩ (by(have X_:=c5 @mapA @yN.eq_1 @AZero.eq_1 @Zero.eq_1 (c2 @Ans.c.eq_1 @Int.toNat_natCast);exact aTdX))
     |false =>
      rw[hop,Bool.false_and] at hq2;have hq2:Hid _:=⟨hq2⟩
      cases st with
      |true =>
       clear hst
       (repeat' first|refine gA ?_|refine gT ?_ ?_<;>intro hv<;>try cases hv;done|fail)
       refine zC (j+1,true,kl++[⟨⟨gk,gn,gs⟩,ge⟩],nb++[false]) (by first|omega|(dsimp only;omega)) ⟨by first|omega|(dsimp only;omega),by simp,hq2.h.1,hq2.h.2⟩ (by(have X_:=c5 @mapA @yN.eq_1 @AZero.eq_1 @Zero.eq_1 (c2 @Ans.c.eq_1 @Int.toNat_natCast);exact aTdX))
      |false =>
       have hj0:j=0:=by simpa using hst
       subst hj0;obtain rfl:kl=[]:=List.length_eq_zero_iff.1 hklen;obtain rfl:nb=[]:=List.length_eq_zero_iff.1 hnlen;have hej:x.kids.l[0]?=some _:=hej;clear hst hklen hnlen hle hle2 hsm
       (repeat' first|refine gA ?_|refine gT ?_ ?_<;>intro hv<;>try cases hv;done|fail)
       refine zC (1,true,[⟨⟨gk,gn,gs⟩,ge⟩],[false]) (by first|omega|(dsimp only;omega)) ⟨by first|omega|(dsimp only;omega),rfl,hq2.h.1,hq2.h.2⟩ (by(have X_:=c5 @mapA @yN.eq_1 @AZero.eq_1 @Zero.eq_1 (c2 @Ans.c.eq_1 @Int.toNat_natCast);exact aTdX))
  have hdj:decide ((j:Int)<x.kids.l.length)=false:=by simpa using hj'
  have hjl:j=x.kids.l.length:=by omega
  have hi2:(i:Int)<(T.l.length:Int):=by omega
  have hi0:(0:Int)≤(i:Int):=by omega
  have hnthi:nth (all.map Ans.c) i=some AZero.c:=by
   rw[yP,List.getElem?_map,hall2.h,List.getElem?_append_right (by rw[vF];exact Nat.le_refl _),vF,Nat.sub_self];have hr:T.l.length - i=(T.l.length - (i+1))+1:=by omega
   rw[hr,List.replicate_succ];rfl
  simp only[AZero,Zero,Ans.c] at hnthi;have hlf:=zYQ x.op x.v x.name (.sl x.kids.nl x.kids.cl (x.kids.l.map intC)) (.int .i64 x.line) (.int .i64 x.col) self vnl vcl vars hvl;have hklp:∀a ∈ kl,AOK a:=by
   rw[hkls];intro a ha;obtain⟨k,_,rfl⟩:=List.mem_map.1 ha;exact zPm _ _ _ (hev i)
  have hkl2:kl.length<4294967295:=by rw[hkls];simp;omega
  have hklen:kl.length=j:=by rw[hkls];simp;omega
  have hnode:zDF (wH (T.l.map Node.s) self vars i) (T.l.map Node.s) x.s self vars=if (uJ x.op x.v x.name self vars).2 then (uJ x.op x.v x.name self vars).1 else if (vN x.op kl nb).2 then (vN x.op kl nb).1 else kX x.op kl nb:=by
   rw[hjl,List.take_length] at hkls hnbs;unfold zDF;rw[hkls,hnbs];rfl
  have hstep:∀a,zDF (wH (T.l.map Node.s) self vars i) (T.l.map Node.s) x.s self vars=a→all.set i a=wH (T.l.map Node.s) self vars (i+1)++List.replicate (T.l.length - (i+1)) AZero∧a=zFT (wH (T.l.map Node.s) self vars (i+1)):=fun a ha=>by
   have he1:wH (T.l.map Node.s) self vars (i+1)=wH (T.l.map Node.s) self vars i++[a]:=by rw[wH,hns];simp only[ha]
   rw[he1];refine⟨?_,(zKR _ _).symm⟩;rw[hall2.h,List.set_append_right _ _ (by rw[vF];exact Nat.le_refl _),vF,Nat.sub_self];have hr:T.l.length - i=(T.l.length - (i+1))+1:=by omega
   rw[hr,List.replicate_succ,List.set_cons_zero,List.append_assoc];rfl
  have hnb0':j=0→nb=[]:=fun h=>by rw[hnbs,h];rfl
  have hev2:Hid _:=⟨hev⟩
  clear hkls hnbs hev hns hjl;cases st with
  |true =>
   have hemp:kl.isEmpty=false:=by
    cases kl with
    |nil=>simp at hst hklen;omega
    |cons a l=>rfl
   clear hst hklen hnb0';have htr:=zMS x.op kl nb false hemp hklp;have hot:=zNx x.op kl nb false hemp hklp hkl2;clear hklp hkl2 hemp;generalize uJ x.op x.v x.name self vars=lf at hlf hnode;generalize vN x.op kl nb=tr at htr hnode;generalize kX x.op kl nb=ot at hot hnode;obtain⟨⟨⟨lk,ln,ls⟩,le⟩,lb⟩:=lf;obtain⟨⟨⟨tk,tn,tS⟩,te⟩,tb⟩:=tr;obtain⟨⟨ok,on,os⟩,oe⟩:=ot;have hstep2:Hid _:=⟨hstep⟩
   have hnode2:Hid _:=⟨hnode⟩
   clear hstep hnode;simp only[List.map_nil] at htr hot;cases lb with
   |true =>
    have hfin:=hstep2.h ⟨⟨lk,ln,ls⟩,le⟩ (by rw[hnode2.h];rfl)
    (have x0_:=@Ans.c.eq_1;have x1_:=@qB.eq_1;(repeat' first|refine gA ?_|refine gT ?_ ?_<;>intro hv<;>try cases hv;done|fail);all_goals clear x0_ x1_)
    refine zC (i+1,all.set i ⟨⟨lk,ln,ls⟩,le⟩,⟨⟨lk,ln,ls⟩,le⟩) (by first|omega|(dsimp only;omega)) ⟨by first|omega|(dsimp only;omega),hfin.1,hfin.2⟩ (by(have X_:=c5 @qP @mapS @AZero.eq_1 @Zero.eq_1 @Ans.c.eq_1;exact aTdX))
   |false =>
    cases tb with
    |true =>
     have hfin:=hstep2.h ⟨⟨tk,tn,tS⟩,te⟩ (by rw[hnode2.h];rfl)
     (have x0_:=@Ans.c.eq_1;have x1_:=@qB.eq_1;(repeat' first|refine gA ?_|refine gT ?_ ?_<;>intro hv<;>try cases hv;done|fail);all_goals clear x0_ x1_)
     refine zC (i+1,all.set i ⟨⟨tk,tn,tS⟩,te⟩,⟨⟨tk,tn,tS⟩,te⟩) (by first|omega|(dsimp only;omega)) ⟨by first|omega|(dsimp only;omega),hfin.1,hfin.2⟩ (by(have X_:=c5 @qP @mapS @AZero.eq_1 @Zero.eq_1 @Ans.c.eq_1;exact aTdX))
    |false =>
     have hfin:=hstep2.h ⟨⟨ok,on,os⟩,oe⟩ (by rw[hnode2.h];rfl)
     (have x0_:=@Ans.c.eq_1;have x1_:=@qB.eq_1;(repeat' first|refine gA ?_|refine gT ?_ ?_<;>intro hv<;>try cases hv;done|fail);all_goals clear x0_ x1_)
     refine zC (i+1,all.set i ⟨⟨ok,on,os⟩,oe⟩,⟨⟨ok,on,os⟩,oe⟩) (by first|omega|(dsimp only;omega)) ⟨by first|omega|(dsimp only;omega),hfin.1,hfin.2⟩ (by(have X_:=c5 @qP @mapS @AZero.eq_1 @Zero.eq_1 @Ans.c.eq_1;exact aTdX))
  |false =>
   have hj0:j=0:=by simpa using hst
   have hkl0:kl=[]:=List.length_eq_zero_iff.1 (by omega);subst hkl0;have hnb0:nb=[]:=hnb0' hj0;subst hnb0;have hemp:([]:List Ans).isEmpty=true:=rfl;clear hst hklen hnb0' hj0;have htr:=zMS x.op ([]:List Ans) ([]:List Bool) true hemp hklp;have hot:=zNx x.op ([]:List Ans) ([]:List Bool) true hemp hklp hkl2;clear hklp hkl2 hemp;generalize uJ x.op x.v x.name self vars=lf at hlf hnode;generalize vN x.op ([]:List Ans) ([]:List Bool)=tr at htr hnode;generalize kX x.op ([]:List Ans) ([]:List Bool)=ot at hot hnode;obtain⟨⟨⟨lk,ln,ls⟩,le⟩,lb⟩:=lf;obtain⟨⟨⟨tk,tn,tS⟩,te⟩,tb⟩:=tr;obtain⟨⟨ok,on,os⟩,oe⟩:=ot;have hstep2:Hid _:=⟨hstep⟩
   have hnode2:Hid _:=⟨hnode⟩
   clear hstep hnode;simp only[List.map_nil] at htr hot;cases lb with
   |true =>
    have hfin:=hstep2.h ⟨⟨lk,ln,ls⟩,le⟩ (by rw[hnode2.h];rfl)
    (have x0_:=@Ans.c.eq_1;have x1_:=@qB.eq_1;(repeat' first|refine gA ?_|refine gT ?_ ?_<;>intro hv<;>try cases hv;done|fail);all_goals clear x0_ x1_)
    refine zC (i+1,all.set i ⟨⟨lk,ln,ls⟩,le⟩,⟨⟨lk,ln,ls⟩,le⟩) (by first|omega|(dsimp only;omega)) ⟨by first|omega|(dsimp only;omega),hfin.1,hfin.2⟩ (by(have X_:=c5 @qP @mapS @AZero.eq_1 @Zero.eq_1 @Ans.c.eq_1;exact aTdX))
   |false =>
    cases tb with
    |true =>
     have hfin:=hstep2.h ⟨⟨tk,tn,tS⟩,te⟩ (by rw[hnode2.h];rfl)
     (have x0_:=@Ans.c.eq_1;have x1_:=@qB.eq_1;(repeat' first|refine gA ?_|refine gT ?_ ?_<;>intro hv<;>try cases hv;done|fail);all_goals clear x0_ x1_)
     refine zC (i+1,all.set i ⟨⟨tk,tn,tS⟩,te⟩,⟨⟨tk,tn,tS⟩,te⟩) (by first|omega|(dsimp only;omega)) ⟨by first|omega|(dsimp only;omega),hfin.1,hfin.2⟩ (by(have X_:=c5 @qP @mapS @AZero.eq_1 @Zero.eq_1 @Ans.c.eq_1;exact aTdX))
    |false =>
     have hfin:=hstep2.h ⟨⟨ok,on,os⟩,oe⟩ (by rw[hnode2.h];rfl)
     (have x0_:=@Ans.c.eq_1;have x1_:=@qB.eq_1;(repeat' first|refine gA ?_|refine gT ?_ ?_<;>intro hv<;>try cases hv;done|fail);all_goals clear x0_ x1_)
     refine zC (i+1,all.set i ⟨⟨ok,on,os⟩,oe⟩,⟨⟨ok,on,os⟩,oe⟩) (by first|omega|(dsimp only;omega)) ⟨by first|omega|(dsimp only;omega),hfin.1,hfin.2⟩ (by(have X_:=c5 @qP @mapS @AZero.eq_1 @Zero.eq_1 @Ans.c.eq_1;exact aTdX))
 have hd:decide ((i:Int)<T.l.length)=false:=by simpa using hi'
 have hil:i=T.l.length:=by omega
 have hE:wL (T.l.map Node.s) self vars=last:=by unfold wL;rw[List.length_map,← hil];exact hlast.symm
 rw[hE];clear hall hlast hev hE hil;obtain⟨⟨lk,ln,ls⟩,le⟩:=last
 (have x0_:=@Ans.c.eq_1;(repeat' first|refine gA ?_|refine gT ?_ ?_<;>intro hv<;>try cases hv;done|fail);all_goals clear x0_)
 (refine aK ?_ ?_)
 ·rfl
 rfl
end Go.Ab
