/- Lemmas. -/
import Derived.Test.YtdbfacakphncfaaGreatDoorG19
set_option maxRecDepth 1000000
set_option maxHeartbeats 40000000
set_option linter.all false
namespace Go.Ab
open Go.Proofs
attribute [local irreducible] W RW RR
def zGr(n:Int):∃x:Val,Om CC 144 [.t (.int .i64 n)] []=some (.val (.t (.agg [.int .u8 x.k,.int .i64 x.n,.str x.s])),[])∧(R64 n→VOK x):=by
 refine zJ zYZ rfl ?_
 (have F_:=c5 zF zE zC zB yEU;show W CC 0 5 (zA 144) _ ⟨[(0,_)],[]⟩ _)
 (refine gA ?_)
 all_goals refine aJ ?_<;>exact⟨⟨_,_,_⟩,⟨rfl,rfl⟩,by exact fun h=>yZ _ h⟩
noncomputable def zFb(n:Int):Val:=(zGr n).choose
def zLx(n:Int):Om CC 144 [.t (.int .i64 n)] []=some (.val (.t (.agg [.int .u8 (zFb n).k,.int .i64 (zFb n).n,.str (zFb n).s])),[]):=(zGr n).choose_spec.1
def zNy(n:Int):R64 n→VOK (zFb n):=(zGr n).choose_spec.2
def yBg(a:Val)(x y:Bool)(ha:VOK a):∃r:Ans,Om CC 141 [.t (.sl x y [[.int .u8 a.k,.int .i64 a.n,.str a.s]])] []=some (.val (.t (.agg [.int .u8 r.v.k,.int .i64 r.v.n,.str r.v.s,.int .i64 r.e])),[])∧AOK r:=by
 refine zJ yAK rfl ?_
 (have F_:=c5 zF zP zE zC (c5 zB zR xN xW (c5 yFF zPQ zEB zGK (c5 zTb @zBZ @zFc @zQy @uP)));show W CC 0 25 (zA 141) _ ⟨[(0,_)],[]⟩ _)
 obtain⟨f1,mc,_⟩:=zHo 1 2 [a] x y (by simp);simp only[List.map_cons,List.map_nil,Val.c] at mc;have hn:=ha.1
 (repeat' first|refine gA ?_|refine gT ?_ ?_<;>intro hv|fail)
 all_goals refine aJ ?_<;>(first|exact⟨⟨a,0⟩,⟨rfl,rfl⟩,ha⟩|exact⟨Told (VNeg a).1 (VNeg a).2,⟨rfl,rfl⟩,zGH _ _ (zTL a)⟩|exact⟨Fail 8,⟨rfl,rfl⟩,zEw _⟩)
def zXz(a b:Val)(x y:Bool)(hb:R64 b.n):∃r:Ans,Om CC 142 [.t (.sl x y [[.int .u8 a.k,.int .i64 a.n,.str a.s],[.int .u8 b.k,.int .i64 b.n,.str b.s]])] []=some (.val (.t (.agg [.int .u8 r.v.k,.int .i64 r.v.n,.str r.v.s,.int .i64 r.e])),[])∧AOK r:=by
 refine zJ zZf rfl ?_
 (have F_:=c5 zF zE zC zB (c5 zR xN xW yDM (c5 yCO zGK zT3 @zFc (c3 @zLx @uP @zDY)));show W CC 0 21 (zA 142) _ ⟨[(0,_)],[]⟩ _)
 have hm:=zYE a.n b.n hb
 (refine gA ?_)
 all_goals refine aJ ?_<;>exact⟨Told (zFb (NMod a.n b.n).1) (NMod a.n b.n).2,⟨rfl,rfl⟩,zGH _ _ (zNy _ (yBO _ _))⟩
def zV2(a:Val)(x y:Bool)(hn:R64 a.n):∃r:Ans,Om CC 134 [.t (.sl x y [[.int .u8 a.k,.int .i64 a.n,.str a.s]])] []=some (.val (.t (.agg [.int .u8 r.v.k,.int .i64 r.v.n,.str r.v.s,.int .i64 r.e])),[])∧AOK r:=by
 refine zJ zYB rfl ?_
 (have F_:=c5 zF zE zC zB (c5 zR xN xW yFL (c5 zGK zTb @zFc @zQy @uP));show W CC 0 10 (zA 134) _ ⟨[(0,_)],[]⟩ _)
 (refine gA ?_)
 all_goals refine aJ ?_<;>exact⟨Told (VNeg a).1 (VNeg a).2,⟨rfl,rfl⟩,zGH _ _ (zTL a)⟩
def zWT(a:Val)(x y:Bool)(ha:VOK a):∃r:Ans,Om CC 143 [.t (.sl x y [[.int .u8 a.k,.int .i64 a.n,.str a.s]])] []=some (.val (.t (.agg [.int .u8 r.v.k,.int .i64 r.v.n,.str r.v.s,.int .i64 r.e])),[])∧AOK r:=by
 refine zJ zZn rfl ?_
 (have F_:=c5 zF zE zC zB (c5 zR xN xW yC4 (c3 zT3 @zLx @uP));show W CC 0 10 (zA 143) _ ⟨[(0,_)],[]⟩ _)
 have hl:R64 (a.s.length:Int):=by have:=ha.2;unfold R64;omega
 (refine gA ?_)
 all_goals refine aJ ?_<;>exact⟨⟨zFb a.s.length,0⟩,⟨rfl,rfl⟩,zNy _ hl⟩
def zRC(l:List Val)(x y:Bool)(hl:l.length<4294967295)(hr:∀v ∈ l,VOK v):∃r:Ans,Om CC 137 [.t (.sl x y (l.map Val.c))] []=some (.val (.t (.agg [.int .u8 r.v.k,.int .i64 r.v.n,.str r.v.s,.int .i64 r.e])),[])∧AOK r:=by
 refine zJ yBn rfl ?_
 (have F_:=c5 zF zE zC zB (c5 zR xN xW yEF (c3 zGK yC9 @zFc));show W CC 0 8 (zA 137) _ ⟨[(0,_)],[]⟩ _)
 obtain⟨z,hz,ki⟩:=zRN l x y hl (fun v hv=>(hr v hv).1);clear hr
 (refine gA ?_)
 all_goals refine aJ ?_<;>exact⟨Told z.1 z.2,⟨rfl,rfl⟩,zGH _ _ ki⟩
def zSX(l:List Val)(x y:Bool)(hl:l.length<4294967295)(hr:∀v ∈ l,VOK v):∃r:Ans,Om CC 139 [.t (.sl x y (l.map Val.c))] []=some (.val (.t (.agg [.int .u8 r.v.k,.int .i64 r.v.n,.str r.v.s,.int .i64 r.e])),[])∧AOK r:=by
 refine zJ zYu rfl ?_
 (have F_:=c5 zF zE zC zB (c5 zR xN xW yDC (c3 zGK yC2 @zFc));show W CC 0 8 (zA 139) _ ⟨[(0,_)],[]⟩ _)
 obtain⟨z,hz,ki⟩:=zVP l x y hl (fun v hv=>(hr v hv).1);clear hr
 (refine gA ?_)
 all_goals refine aJ ?_<;>exact⟨Told z.1 z.2,⟨rfl,rfl⟩,zGH _ _ ki⟩
def zR8(g:Look)(s:List Nat)(n:Nat)(h:n≤s.length):slice Tryz.prog g 9 (.t (.str s)) none (some (n:Int)) none=some (.t (.str (s.take n))):=by
 unfold slice;rw[zF0];simp;omega
def zIG(a b:List Nat):∃r:Bool,Om CC 161 [.t (.str a),.t (.str b)] []=some (.val (.t (.bool r)),[])∧True:=by
 refine zJ zQs rfl ?_
 (have F_:=c3 zG zC zTu;show W CC 0 18 (zA 161) _ ⟨[(0,_),(1,_)],[]⟩ _)
 by_cases h:b.length≤a.length
 ·have hd:decide ((a.length:Int) ≥ b.length)=true:=by simpa using h
  have hs:=fun g=>zR8 g a b.length h
  (have x0_:=@Ab.bound.eq_1;have x1_:=@Ab.bound.eq_2;(refine gA ?_);all_goals clear x0_ x1_)
  all_goals refine aJ ?_<;>exact⟨_,⟨rfl,rfl⟩,trivial⟩
 have hd:decide ((a.length:Int) ≥ b.length)=false:=by simp;omega
 (refine gA ?_)
 all_goals refine aJ ?_<;>exact⟨_,⟨rfl,rfl⟩,trivial⟩
noncomputable def zWo(a b:List Nat):Bool:=(zIG a b).choose
def zQe(a b:List Nat):Om CC 161 [.t (.str a),.t (.str b)] []=some (.val (.t (.bool (zWo a b))),[]):=(zIG a b).choose_spec.1
def zJ2(a:List Nat)(b:List Nat):∃x:Bool,Om CC 107 [.t (.str a),.t (.str b)] []=some (.val (.t (.bool x)),[])∧(True):=by
 refine zJ zQ6 rfl ?_
 (have F_:=c3 zC zVK (c2 zL3 @zQe);show W CC 0 8 (zA 107) _ ⟨[(0,_),(1,_)],[]⟩ _)
 (refine gA ?_)
 all_goals refine aJ ?_<;>exact⟨_,⟨rfl,rfl⟩,by trivial⟩
noncomputable def zQK(a:List Nat)(b:List Nat):Bool:=(zJ2 a b).choose
def zSz(a:List Nat)(b:List Nat):Om CC 107 [.t (.str a),.t (.str b)] []=some (.val (.t (.bool (zQK a b))),[]):=(zJ2 a b).choose_spec.1
def zUK(a b:Val)(x y:Bool):∃r:Ans,Om CC 127 [.t (.sl x y [[.int .u8 a.k,.int .i64 a.n,.str a.s],[.int .u8 b.k,.int .i64 b.n,.str b.s]])] []=some (.val (.t (.agg [.int .u8 r.v.k,.int .i64 r.v.n,.str r.v.s,.int .i64 r.e])),[])∧AOK r:=by
 refine zJ zZ5 rfl ?_
 (have F_:=c5 zF zP zE zC (c5 zB zR xN xW (c5 yBJ zBi zEa @zSz (c3 @qD @uP @zDY)));show W CC 0 14 (zA 127) _ ⟨[(0,_)],[]⟩ _)
 (refine gA ?_)
 all_goals refine aJ ?_<;>exact⟨⟨uF (zQK a.s b.s),0⟩,⟨rfl,rfl⟩,zCz _⟩
noncomputable def varA(name:List Nat)(l:List Bind):Ans :=
 match l.findIdx? (fun b=>beqL b.name name) with
 |some i=>Held ((l.map Bind.v).getD i Zero)
 |none=>Fail 11
def zWY{name:List Nat}{l:List Bind}{i:Nat}(hi:i<l.length)(h:beqL l[i].name name=true)(hn:∀j (hj:j<l.length),j<i→beqL l[j].name name=false):varA name l=Held l[i].v:=by
 have:l.findIdx? (fun t=>beqL t.name name)=some i:=by
  rw[List.findIdx?_eq_some_iff_getElem];exact⟨hi,h,fun j hj=>by simp [hn j (by omega) hj]⟩
 unfold varA;rw[this];simp [List.getD,hi]
def zS6{name:List Nat}{l:List Bind}(hn:∀j (hj:j<l.length),beqL l[j].name name=false):varA name l=Fail 11:=by
 have:l.findIdx? (fun t=>beqL t.name name)=none:=by
  rw[List.findIdx?_eq_none_iff];intro x hx;obtain⟨j,hj,rfl⟩:=List.getElem_of_mem hx;exact hn j hj
 unfold varA;rw[this]
noncomputable def qF(op:Int)(v:Val)(name:List Nat)(self:Val)(l:List Bind):Ans×Bool :=
 if op=1 then (Held v,true) else if op=3 then (Held self,true) else if op=2 then (varA name l,true) else (AZero,false)
def zYM (op:Int) (v:Val) (name:List Nat) (kids line col:Tree) (self:Val) (nl cl:Bool) (l:List Bind) (hl:l.length<9223372036854775808) :
  Om CC 82 [.t (.agg [.int .u8 op,.int .u8 v.k,.int .i64 v.n,.str v.s,.str name,kids,line,col]),.t (.agg [.int .u8 self.k,.int .i64 self.n,.str self.s]),.t (.sl nl cl (l.map Bind.c))] []=some (.val (.tup [.t (.agg [.int .u8 (qF op v name self l).1.v.k,.int .i64 (qF op v name self l).1.v.n,.str (qF op v name self l).1.v.s,.int .i64 (qF op v name self l).1.e]),.t (.bool (qF op v name self l).2)]),[]):=by
 refine zL yFm rfl ?_
 (have F_:=c5 zF zG zE zC (c5 zB zAg zK zR (c5 zAh zM zI xN (c5 yID yDq zEB @zZh @zBZ)));show W CC 0 40 (zA 82) _ ⟨[(0,_),(1,_),(2,_)],[]⟩ _)
 by_cases h1:op=1
 ·subst h1
  (refine gA ?_)
  (refine aK ?_ ?_)
  ·rfl
  rfl
 have e1:(op==1)=false:=by simpa using h1
 by_cases h3:op=3
 ·subst h3
  (refine gA ?_)
  (refine aK ?_ ?_)
  ·rfl
  rfl
 have e3:(op==3)=false:=by simpa using h3
 by_cases h2:op=2
 ·subst h2;have hL:qF 2 v name self l=(varA name l,true):=by simp [qF]
  rw[hL];clear h1 h3
  (refine gA ?_)
  refine yE (α:=Nat) (fun i=>⟨[(3,.box 0 0),(6,.box 1 0),(23,.t (.sl nl cl (l.map Bind.c))),(24,.t (.int .i64 l.length)),(25,.t (.int .i64 i))],[.box [.t (.int .u8 2),.t (.int .u8 v.k),.t (.int .i64 v.n),.t (.str v.s),.t (.str name),.t kids,.t line,.t col],.box (AZero.c.map .t)]⟩) (fun i=>l.length - i)
   (fun i=>i≤l.length∧∀j (hj:j<l.length),j<i→beqL l[j].name name=false) 0 (by kernel_rfl) ⟨Nat.zero_le _,fun j _ hj=>by omega⟩ ?_
  rintro i ⟨hi,hn⟩;simp only[AZero,Zero,Ans.c,List.map_cons,List.map_nil]
  by_cases hM:i<l.length
  ·have hw:=wI64 i (by omega);have he:l[i]?=some l[i]:=List.getElem?_eq_getElem hM;have hd:decide ((i:Int)<l.length)=true:=by simpa using hM
   cases hb:beqL l[i].name name with
   |true =>
    rw[zWY hM hb hn];clear hn
    (refine gA ?_)
    (refine aK ?_ ?_)
    ·rfl
    rfl
   |false =>
    have md:∀j (hj:j<l.length),j<i+1→beqL l[j].name name=false:=fun j hj mv=>by
     rcases Nat.lt_or_ge j i with h|h
     ·exact hn j hj h
     obtain rfl:j=i:=by omega
     exact hb
    clear hn
    (refine gA ?_)
    refine zD (i+1) (by omega) ⟨by omega,md⟩ (by(have X_:=c3 @AZero.eq_1 @Zero.eq_1 @Ans.c.eq_1;exact aTdX))
  have hd:decide ((i:Int)<l.length)=false:=by simpa using hM
  rw[zS6 fun j hj=>hn j hj (by omega)];clear hn
  (refine gA ?_)
  (refine aK ?_ ?_)
  ·rfl
  rfl
 have e2:(op==2)=false:=by simpa using h2
 have hL:qF op v name self l=(AZero,false):=by simp [qF,h1,h2,h3]
 rw[hL]
 (refine gA ?_)
 (refine aK ?_ ?_)
 ·rfl
 rfl
def u8C(n:Int):List Tree:=[.int .u8 n]
def zJ5:∀bs:List Int,zDG (bs.map u8C)=some (bs.map fun n=>n.toNat % 256)
 |[]=>rfl
 |b::bs=>by
  have h:=zJ5 bs
  show (match zDG (bs.map u8C) with|some bs=>some (b.toNat % 256::bs)|none=>none)=_
  rw[h];rfl
def zTX(a:Val)(x y:Bool)(ha:VOK a):∃r:Ans,Om CC 145 [.t (.sl x y [[.int .u8 a.k,.int .i64 a.n,.str a.s]])] []=some (.val (.t (.agg [.int .u8 r.v.k,.int .i64 r.v.n,.str r.v.s,.int .i64 r.e])),[])∧AOK r:=by
 refine zJ yAO rfl ?_
 (have F_:=c5 zF zG zE zC (c5 zB zR zRS xN (c3 xW yEK @uP));show W CC 0 35 (zA 145) _ ⟨[(0,_)],[]⟩ _)
 have hs:a.s.length<4294967281:=ha.2;clear ha
 (refine gA ?_)
 refine yE (α:=Nat×List Int) (fun q=>⟨[(2,.box 0 0),(3,.hs 1 0),(11,.hs 1 0),(12,.t (.int .i64 a.s.length)),(13,.t (.int .i64 q.1))],[.box (AZero.c.map .t),.arr 1 0 false (q.2.map u8C)]⟩)
  (fun q=>a.s.length - q.1) (fun q=>q.1≤a.s.length∧q.2.length=a.s.length) (0,a.s.map Int.ofNat) ?_ ⟨Nat.zero_le _,by simp⟩ ?_
 ·(simp only[xP,wK,F_,tidy,zBY,canon,reach,wT,refs,vS,catMap,depth,renL,ren,renO,sub,sub1,upto,mem,place,fresh,cond_true,Ab.get,nth,List.map,List.zip_cons_cons,List.zip_nil_left,List.zip_nil_right,List.take,List.append_nil,List.nil_append,List.cons_append,Bool.and_true,uG,decide_true,decide_false,reduceIte,Nat.reduceEqDiff,Nat.beq,Sl.t,Val.c,Slot.c,Tpl.c,Fact.c,Bind.c,Node.c,Test.c,STest.c,Pat.c,intC,AZero,Zero,Ans.c,byteCells,List.length_map,List.map_map,Function.comp_def,u8C,Int.ofNat_eq_natCast]<;>exact rfl)
 rintro⟨i,bs⟩ ⟨hi,hl⟩
 try dsimp only at hi hl
 simp only[AZero,Zero,Ans.c,List.map_cons,List.map_nil]
 by_cases hM:i<a.s.length
 ·have hw:=wI64 i (by omega);have hd:decide ((i:Int)<a.s.length)=true:=by simpa using hM
  have me:(0:Int)≤(i:Int):=by omega
  have mf:(i:Int)<(a.s.length:Int):=by omega
  have he:nth (bs.map u8C) i=some [.int .u8 (bs[i]'(by omega))]:=by rw[yP];simp [u8C,hl,hM]
  generalize bs[i]'(by omega)=b at he
  (have x0_:=@uS.eq_1;(repeat' first|refine gA ?_|refine gT ?_ ?_<;>intro hv|fail);all_goals clear x0_)
  ·refine zD (i+1,bs.set i (IntKind.u8.wrap (IntKind.u8.wrap (b - 97)+65))) (by first|omega|(dsimp only;omega)) ⟨by first|omega|(dsimp only;omega),by simp [hl]⟩ (by(have X_:=c5 @AZero.eq_1 @Zero.eq_1 @Ans.c.eq_1 @uZ (c2 @mapS @u8C.eq_1);exact aTdX))
  all_goals refine zD (i+1,bs) (by first|omega|(dsimp only;omega)) ⟨by first|omega|(dsimp only;omega),hl⟩ (by(have X_:=c3 @AZero.eq_1 @Zero.eq_1 @Ans.c.eq_1;exact aTdX))
 have hd:decide ((i:Int)<a.s.length)=false:=by simpa using hM
 have mw:=zJ5 bs
 (refine gA ?_)
 (refine aJ ?_)
 refine⟨⟨⟨3,0,bs.map fun n=>n.toNat % 256⟩,0⟩,⟨rfl,rfl⟩,wC,?_⟩;simp;omega
def zWI(a b:Val)(x y:Bool)(ha:VOK a):∃r:Ans,Om CC 125 [.t (.sl x y [[.int .u8 a.k,.int .i64 a.n,.str a.s],[.int .u8 b.k,.int .i64 b.n,.str b.s]])] []=some (.val (.t (.agg [.int .u8 r.v.k,.int .i64 r.v.n,.str r.v.s,.int .i64 r.e])),[])∧AOK r:=by
 refine zJ yAC rfl ?_
 (have F_:=c5 zF zP zE zC (c5 zB zR xN xW (c5 yCf yCP zEa @qD (c2 @uP @zDY)));show W CC 0 14 (zA 125) _ ⟨[(0,_)],[]⟩ _)
 have hs:a.s.length<4294967281:=ha.2;have hh:CC.prim 126 [.t (.str a.s),.t (.str b.s)]=some (.t (.bool (Lib.contains (ub a.s) (ub b.s)))):=by
  rw[zYA]
  show (bif Nat.blt a.s.length 4294967281 then _ else _)=_
  rw[show Nat.blt a.s.length 4294967281=true from by rw[Nat.blt_eq];exact hs];rfl
 clear ha
 (refine gA ?_)
 all_goals refine aJ ?_<;>exact⟨⟨uF _,0⟩,⟨rfl,rfl⟩,zCz _⟩
def zMC(a b:Val)(ha:VOK a)(hb:VOK b):∃x:Val,Om CC 42 [.t (.sl false false [[.int .u8 a.k,.int .i64 a.n,.str a.s],[.int .u8 b.k,.int .i64 b.n,.str b.s]])] []=some (.val (.t (.agg [.int .u8 x.k,.int .i64 x.n,.str x.s])),[])∧VOK x :=
 zMH [a,b] false false (by simp) (by simp [ha,hb])
open Classical in
noncomputable def All2(a b:Val):Val:=if h:VOK a∧VOK b then (zMC a b h.1 h.2).choose else Zero
def zFi(a b:Val)(ha:VOK a)(hb:VOK b):Om CC 42 [.t (.sl false false [[.int .u8 a.k,.int .i64 a.n,.str a.s],[.int .u8 b.k,.int .i64 b.n,.str b.s]])] []=some (.val (.t (.agg [.int .u8 (All2 a b).k,.int .i64 (All2 a b).n,.str (All2 a b).s])),[]):=by
 unfold All2;rw[dif_pos ⟨ha,hb⟩];exact(zMC a b ha hb).choose_spec.1
def zMd(a b:Val)(ha:VOK a)(hb:VOK b):VOK (All2 a b):=by
 unfold All2;rw[dif_pos ⟨ha,hb⟩];exact(zMC a b ha hb).choose_spec.2
def zMS(a b:Val)(ha:VOK a)(hb:VOK b):∃x:Val,Om CC 44 [.t (.sl false false [[.int .u8 a.k,.int .i64 a.n,.str a.s],[.int .u8 b.k,.int .i64 b.n,.str b.s]])] []=some (.val (.t (.agg [.int .u8 x.k,.int .i64 x.n,.str x.s])),[])∧VOK x :=
 yAe [a,b] false false (by simp) (by simp [ha,hb])
open Classical in
noncomputable def Any2(a b:Val):Val:=if h:VOK a∧VOK b then (zMS a b h.1 h.2).choose else Zero
def zFd(a b:Val)(ha:VOK a)(hb:VOK b):Om CC 44 [.t (.sl false false [[.int .u8 a.k,.int .i64 a.n,.str a.s],[.int .u8 b.k,.int .i64 b.n,.str b.s]])] []=some (.val (.t (.agg [.int .u8 (Any2 a b).k,.int .i64 (Any2 a b).n,.str (Any2 a b).s])),[]):=by
 unfold Any2;rw[dif_pos ⟨ha,hb⟩];exact(zMS a b ha hb).choose_spec.1
def zK3(a b:Val)(ha:VOK a)(hb:VOK b):VOK (Any2 a b):=by
 unfold Any2;rw[dif_pos ⟨ha,hb⟩];exact(zMS a b ha hb).choose_spec.2
def zDd (op:Int) (nl cl hp ht:Bool) (kl:List Ans) (nb:List Bool) (hk:∀a ∈ kl,AOK a) :
  ∃x:Ans×Bool,Om CC 83 [.t (.int .u8 op),.t (.agg [.sl nl cl (kl.map Ans.c),.sl hp ht (nb.map yU)])] []=some (.val (.tup [.t (.agg [.int .u8 x.1.v.k,.int .i64 x.1.v.n,.str x.1.v.s,.int .i64 x.1.e]),.t (.bool x.2)]),[])∧AOK x.1∧(op=7∨op=8∨op=9∨op=10∨op=11∨op=12→x.2=true∧TB x.1):=by
 refine zJ yDk rfl ?_
 (have F_:=c5 zF zG zP zE (c5 zC zB zR zHX (c5 zOC kA xN kC (c5 kE zBz yIp yB4 (c5 zOV yGv yGa zUl (c2 zOk @zGI)))));show W CC 0 59 (zA 83) _ ⟨[(0,_),(1,_)],[]⟩ _)
 obtain⟨b0,mx,pb0⟩:=zPo 42 zJh (fun x=>zX _ x (by decide)) All2 zFi zMd 0 nl cl hp ht kl nb hk;obtain⟨b1,my,pb1⟩:=zPo 44 zLy (fun x=>zX _ x (by decide)) Any2 zFd zK3 1 nl cl hp ht kl nb hk;obtain⟨t0,ku,pt0⟩:=zFS nl cl hp ht kl (nb.map yU) 0 hk;have ku:Om CC 117 [.t (.agg [.sl nl cl (kl.map Ans.c),.sl hp ht (nb.map yU)]),.t (.int .i64 0)] []=_:=ku;obtain⟨e1,kv,pe1⟩:=zL5 nl cl hp ht kl nb hk true;obtain⟨e0,mz,pe0⟩:=zL5 nl cl hp ht kl nb hk false;obtain⟨o1,mA,po1⟩:=zGb 120 yBK (fun x=>zX _ x (by decide)) zYo zV3 nl cl hp ht kl nb hk;obtain⟨o2,mB,po2⟩:=zGb 121 yB0 (fun x=>zX _ x (by decide)) zXL zXr nl cl hp ht kl nb hk;obtain⟨o3,mC,po3⟩:=zGb 122 yGW (fun x=>zX _ x (by decide)) zYf zXh nl cl hp ht kl nb hk;obtain⟨o4,mD,po4⟩:=zGb 123 yGl (fun x=>zX _ x (by decide)) zXZ zWy nl cl hp ht kl nb hk;obtain⟨s5,kw,ps5⟩:=zFA 125 yCH (fun x=>zX _ x (by decide)) 3 2 (by decide) (fun l x y hl hv=>by
  match l,hl,hv with
  |[a,b],_,hv=>exact zWI a b x y (hv a (by simp))) nl cl hp ht kl nb hk
 have kw:Om CC 124 [.t (.agg [.sl nl cl (kl.map Ans.c),.sl hp ht (nb.map yU)]),.t (.int .i64 2),.t (.int .u8 3),.t (.fn 125)] []=_:=kw;obtain⟨s6,kx,ps6⟩:=zFA 127 yEf (fun x=>zX _ x (by decide)) 3 2 (by decide) (fun l x y hl hv=>by
  match l,hl,hv with
  |[a,b],_,hv=>exact zUK a b x y) nl cl hp ht kl nb hk
 have kx:Om CC 124 [.t (.agg [.sl nl cl (kl.map Ans.c),.sl hp ht (nb.map yU)]),.t (.int .i64 2),.t (.int .u8 3),.t (.fn 127)] []=_:=kx;have pn:=zGT t0.v;clear hk
 (repeat' first|refine gA ?_|refine gT ?_ ?_<;>intro hv|fail)
 all_goals refine aJ ?_<;>(first|exact⟨(b0,true),⟨rfl,rfl⟩,pb0,fun h=>absurd h (by clear F_;simp only[beq_iff_eq,beq_eq_false_iff_ne] at *;omega)⟩|exact⟨(b1,true),⟨rfl,rfl⟩,pb1,fun h=>absurd h (by clear F_;simp only[beq_iff_eq,beq_eq_false_iff_ne] at *;omega)⟩|exact⟨(⟨NotV t0.v,0⟩,true),⟨rfl,rfl⟩,pn,fun h=>absurd h (by clear F_;simp only[beq_iff_eq,beq_eq_false_iff_ne] at *;omega)⟩|exact⟨(⟨NotV t0.v,t0.e⟩,true),⟨rfl,rfl⟩,pn,fun h=>absurd h (by clear F_;simp only[beq_iff_eq,beq_eq_false_iff_ne] at *;omega)⟩|exact⟨(t0,true),⟨rfl,rfl⟩,pt0,fun h=>absurd h (by clear F_;simp only[beq_iff_eq,beq_eq_false_iff_ne] at *;omega)⟩|exact⟨(e1,true),⟨rfl,rfl⟩,pe1.1,fun _=>⟨rfl,pe1.2⟩⟩|exact⟨(e0,true),⟨rfl,rfl⟩,pe0.1,fun _=>⟨rfl,pe0.2⟩⟩|exact⟨(o1,true),⟨rfl,rfl⟩,po1.1,fun _=>⟨rfl,po1.2⟩⟩|exact⟨(o2,true),⟨rfl,rfl⟩,po2.1,fun _=>⟨rfl,po2.2⟩⟩|exact⟨(o3,true),⟨rfl,rfl⟩,po3.1,fun _=>⟨rfl,po3.2⟩⟩|exact⟨(o4,true),⟨rfl,rfl⟩,po4.1,fun _=>⟨rfl,po4.2⟩⟩|exact⟨(s5,true),⟨rfl,rfl⟩,ps5,fun h=>absurd h (by clear F_;simp only[beq_iff_eq,beq_eq_false_iff_ne] at *;omega)⟩|exact⟨(s6,true),⟨rfl,rfl⟩,ps6,fun h=>absurd h (by clear F_;simp only[beq_iff_eq,beq_eq_false_iff_ne] at *;omega)⟩|exact⟨(AZero,false),⟨rfl,rfl⟩,yX,fun h=>absurd h (by clear F_;simp only[beq_iff_eq,beq_eq_false_iff_ne] at *;omega)⟩)
def zGW (op:Int) (nl cl hp ht:Bool) (kl:List Ans) (nb:List Bool) (hk:∀a ∈ kl,AOK a) (hl:kl.length<4294967295) :
  ∃x:Ans,Om CC 84 [.t (.int .u8 op),.t (.agg [.sl nl cl (kl.map Ans.c),.sl hp ht (nb.map yU)])] []=some (.val (.t (.agg [.int .u8 x.v.k,.int .i64 x.v.n,.str x.v.s,.int .i64 x.e])),[])∧AOK x:=by
 refine zJ yDI rfl ?_
 (have F_:=c5 zF zG zP zE (c5 zC zB zR kA (c5 xN kC kE zBz (c5 zOA yH2 yBQ zIZ (c3 zUl yCr (c2 zEB @zBZ)))));show W CC 0 61 (zA 84) _ ⟨[(0,_),(1,_)],[]⟩ _)
 obtain⟨a1,h1,p1⟩:=zJu 129 yCQ (fun x=>zX _ x (by decide)) (fun a b ha hb=>zXl a b ha.1 hb.1) nl cl hp ht kl nb hk;obtain⟨a2,h2,p2⟩:=zJu 130 zUz (fun x=>zX _ x (by decide)) (fun a b ha hb=>zG3 a b ha.1 hb.1) nl cl hp ht kl nb hk;obtain⟨a3,h3,p3⟩:=zJu 131 yEW (fun x=>zX _ x (by decide)) (fun a b ha hb=>zV9 a b ha.1 hb.1) nl cl hp ht kl nb hk;obtain⟨a4,h4,p4⟩:=zJu 132 yDK (fun x=>zX _ x (by decide)) (fun a b ha hb=>zWg a b ha.1 hb.1) nl cl hp ht kl nb hk;obtain⟨a5,h5,p5⟩:=zFZ 134 yGi (fun x=>zX _ x (by decide)) nl cl hp ht kl (nb.map yU) 1 (by decide) hk (fun l x y hl hv=>by
  match l,hl,hv with
  |[a],_,hv=>exact zV2 a x y (hv a (by simp)).1)
 have h5:Om CC 133 [.t (.agg [.sl nl cl (kl.map Ans.c),.sl hp ht (nb.map yU)]),.t (.int .i64 1),.t (.fn 134)] []=_:=h5;obtain⟨a6,h6,p6⟩:=zFZ 137 yGj (fun x=>zX _ x (by decide)) nl cl hp ht kl (nb.map yU) kl.length hl hk (fun l x y mg hv=>zRC l x y (by omega) hv);obtain⟨a7,h7,p7⟩:=zFZ 139 yF2 (fun x=>zX _ x (by decide)) nl cl hp ht kl (nb.map yU) kl.length hl hk (fun l x y mg hv=>zSX l x y (by omega) hv);obtain⟨a8,h8,p8⟩:=zFZ 141 yB6 (fun x=>zX _ x (by decide)) nl cl hp ht kl (nb.map yU) 1 (by decide) hk (fun l x y hl hv=>by
  match l,hl,hv with
  |[a],_,hv=>exact yBg a x y (hv a (by simp)))
 have h8:Om CC 133 [.t (.agg [.sl nl cl (kl.map Ans.c),.sl hp ht (nb.map yU)]),.t (.int .i64 1),.t (.fn 141)] []=_:=h8;obtain⟨a9,h9,p9⟩:=zFA 142 yEw (fun x=>zX _ x (by decide)) 1 2 (by decide) (fun l x y hl hv=>by
  match l,hl,hv with
  |[a,b],_,hv=>exact zXz a b x y (hv b (by simp)).1) nl cl hp ht kl nb hk
 have h9:Om CC 124 [.t (.agg [.sl nl cl (kl.map Ans.c),.sl hp ht (nb.map yU)]),.t (.int .i64 2),.t (.int .u8 1),.t (.fn 142)] []=_:=h9;obtain⟨a10,ky,p10⟩:=zFA 143 yBI (fun x=>zX _ x (by decide)) 3 1 (by decide) (fun l x y hl hv=>by
  match l,hl,hv with
  |[a],_,hv=>exact zWT a x y (hv a (by simp))) nl cl hp ht kl nb hk
 have ky:Om CC 124 [.t (.agg [.sl nl cl (kl.map Ans.c),.sl hp ht (nb.map yU)]),.t (.int .i64 1),.t (.int .u8 3),.t (.fn 143)] []=_:=ky;obtain⟨a11,kz,p11⟩:=zFA 145 yBN (fun x=>zX _ x (by decide)) 3 1 (by decide) (fun l x y hl hv=>by
  match l,hl,hv with
  |[a],_,hv=>exact zTX a x y (hv a (by simp))) nl cl hp ht kl nb hk
 have kz:Om CC 124 [.t (.agg [.sl nl cl (kl.map Ans.c),.sl hp ht (nb.map yU)]),.t (.int .i64 1),.t (.int .u8 3),.t (.fn 145)] []=_:=kz;obtain⟨a12,mE,p12⟩:=zSy nl cl hp ht kl (nb.map yU) hk;clear hk
 (repeat' first|refine gA ?_|refine gT ?_ ?_<;>intro hv|fail)
 all_goals refine aJ ?_<;>(first|exact⟨a1,⟨rfl,rfl⟩,p1⟩|exact⟨a2,⟨rfl,rfl⟩,p2⟩|exact⟨a3,⟨rfl,rfl⟩,p3⟩|exact⟨a4,⟨rfl,rfl⟩,p4⟩|exact⟨a5,⟨rfl,rfl⟩,p5⟩|exact⟨a6,⟨rfl,rfl⟩,p6⟩|exact⟨a7,⟨rfl,rfl⟩,p7⟩|exact⟨a8,⟨rfl,rfl⟩,p8⟩|exact⟨a9,⟨rfl,rfl⟩,p9⟩|exact⟨a10,⟨rfl,rfl⟩,p10⟩|exact⟨a11,⟨rfl,rfl⟩,p11⟩|exact⟨a12,⟨rfl,rfl⟩,p12⟩|exact⟨Fail 2,⟨rfl,rfl⟩,zEw _⟩)
open Classical in
noncomputable def uJ(op:Int)(kl:List Ans)(nb:List Bool):Ans×Bool :=
 if h:∀a ∈ kl,AOK a then (zDd op kl.isEmpty kl.isEmpty kl.isEmpty kl.isEmpty kl nb h).choose else (AZero,false)
open Classical in
noncomputable def jY(op:Int)(kl:List Ans)(nb:List Bool):Ans :=
 if h:(∀a ∈ kl,AOK a)∧kl.length<4294967295 then (zGW op kl.isEmpty kl.isEmpty kl.isEmpty kl.isEmpty kl nb h.1 h.2).choose else AZero
def zNt (op:Int) (kl:List Ans) (nb:List Bool) (b:Bool) (hb:kl.isEmpty=b) (h:∀a ∈ kl,AOK a) :
  Om CC 83 [.t (.int .u8 op),.t (.agg [.sl b b (kl.map Ans.c),.sl b b (nb.map yU)])] []=some (.val (.tup [.t (.agg [.int .u8 (uJ op kl nb).1.v.k,.int .i64 (uJ op kl nb).1.v.n,.str (uJ op kl nb).1.v.s,.int .i64 (uJ op kl nb).1.e]),.t (.bool (uJ op kl nb).2)]),[]):=by
 subst hb;unfold uJ;rw[dif_pos h];exact(zDd op _ _ _ _ kl nb h).choose_spec.1
def zXt(op:Int)(kl:List Ans)(nb:List Bool):AOK (uJ op kl nb).1:=by
 unfold uJ;split
 ·rename_i h;exact(zDd op _ _ _ _ kl nb h).choose_spec.2.1
 exact yX
def zXf(op:Int)(kl:List Ans)(nb:List Bool)(ho:op=7∨op=8∨op=9∨op=10∨op=11∨op=12):TB (if (uJ op kl nb).2 then (uJ op kl nb).1 else jY op kl nb):=by
 by_cases h:∀a ∈ kl,AOK a
 ·have:=(zDd op kl.isEmpty kl.isEmpty kl.isEmpty kl.isEmpty kl nb h).choose_spec.2.2 ho;have e:uJ op kl nb=(zDd op kl.isEmpty kl.isEmpty kl.isEmpty kl.isEmpty kl nb h).choose:=by unfold uJ;rw[dif_pos h]
  rw[e,this.1,if_pos rfl];exact this.2
 have e:uJ op kl nb=(AZero,false):=by unfold uJ;rw[dif_neg h]
 have e2:jY op kl nb=AZero:=by unfold jY;rw[dif_neg (fun x=>h x.1)]
 rw[e,e2];exact zB7
def zNE (op:Int) (kl:List Ans) (nb:List Bool) (b:Bool) (hb:kl.isEmpty=b) (h:∀a ∈ kl,AOK a) (hl:kl.length<4294967295) :
  Om CC 84 [.t (.int .u8 op),.t (.agg [.sl b b (kl.map Ans.c),.sl b b (nb.map yU)])] []=some (.val (.t (.agg [.int .u8 (jY op kl nb).v.k,.int .i64 (jY op kl nb).v.n,.str (jY op kl nb).v.s,.int .i64 (jY op kl nb).e])),[]):=by
 subst hb;unfold jY;rw[dif_pos ⟨h,hl⟩];exact(zGW op _ _ _ _ kl nb h hl).choose_spec.1
def zWi(op:Int)(kl:List Ans)(nb:List Bool):AOK (jY op kl nb):=by
 unfold jY;split
 ·rename_i h;exact(zGW op _ _ _ _ kl nb h.1 h.2).choose_spec.2
 exact yX
def yEm(name:List Nat)(l:List Bind)(h:∀b ∈ l,VOK b.v):AOK (varA name l):=by
 unfold varA;split
 ·rename_i i hi;refine zPp _ ?_;rw[List.getD_eq_getElem?_getD];cases hM:(l.map Bind.v)[i]? with
  |none=>exact yX
  |some v =>
   obtain⟨b,hb,rfl⟩:=List.mem_map.1 (List.mem_of_getElem? hM);exact h b hb
 exact zEw _
def zYF(op:Int)(v:Val)(name:List Nat)(self:Val)(l:List Bind)(hv:VOK v)(hs:VOK self)(h:∀b ∈ l,VOK b.v):AOK (qF op v name self l).1:=by
 unfold qF;split
 ·exact zPp _ hv
 split
 ·exact zPp _ hs
 split
 ·exact yEm _ _ h
 exact yX
def SNode.nul(x:SNode):Bool:=x.op==1&&x.v.k==0
noncomputable def kidA(al:List Ans)(ns:List SNode)(at_:Int):Ans×Bool :=
 if at_<0∨at_ ≥ al.length then (AZero,false) else (getA al at_.toNat,match ns[at_.toNat]? with
  |some x=>x.nul
  |none=>false)
noncomputable def zDh(al:List Ans)(ns:List SNode)(x:SNode)(self:Val)(vars:List Bind):Ans :=
 if (qF x.op x.v x.name self vars).2 then (qF x.op x.v x.name self vars).1
 else if (uJ x.op (x.kids.map fun k=>(kidA al ns k).1) (x.kids.map fun k=>(kidA al ns k).2)).2 then (uJ x.op (x.kids.map fun k=>(kidA al ns k).1) (x.kids.map fun k=>(kidA al ns k).2)).1
 else jY x.op (x.kids.map fun k=>(kidA al ns k).1) (x.kids.map fun k=>(kidA al ns k).2)
noncomputable def wN(ns:List SNode)(self:Val)(vars:List Bind):Nat→List Ans
 |0=>[]
 |i+1=>wN ns self vars i++[match ns[i]? with
  |some x=>zDh (wN ns self vars i) ns x self vars
  |none=>AZero]
noncomputable def zHz(l:List Ans):Ans:=l.getLast?.getD AZero
noncomputable def vG(ns:List SNode)(self:Val)(vars:List Bind):Ans:=zHz (wN ns self vars ns.length)
def vX(ns:List SNode)(self:Val)(vars:List Bind):∀i,(wN ns self vars i).length=i
 |0=>rfl
 |i+1=>by simp [wN,vX ns self vars i]
def yDS(al:List Ans)(ns:List SNode)(k:Int)(h:∀a ∈ al,AOK a):AOK (kidA al ns k).1:=by
 unfold kidA;split
 ·exact yX
 exact zBK h _
def yBr(al:List Ans)(ns:List SNode)(x:SNode)(self:Val)(vars:List Bind)(hx:VOK x.v)(hs:VOK self)(hv:∀b ∈ vars,VOK b.v):AOK (zDh al ns x self vars):=by
 unfold zDh;split
 ·exact zYF _ _ _ _ _ hx hs hv
 split
 ·exact zXt _ _ _
 exact zWi _ _ _
def zMX(ns:List SNode)(self:Val)(vars:List Bind)(hn:∀x ∈ ns,VOK x.v)(hs:VOK self)(hv:∀b ∈ vars,VOK b.v):∀i,∀a ∈ wN ns self vars i,AOK a
 |0,a,h=>by cases h
 |i+1,a,h=>by
  rcases List.mem_append.1 h with h|h
  ·exact zMX ns self vars hn hs hv i a h
  rw[List.mem_singleton.1 h];cases hx:ns[i]? with
  |none=>exact yX
  |some x=>exact yBr _ _ _ _ _ (hn x (List.mem_of_getElem? hx)) hs hv
def zYV(l:List Ans)(h:∀a ∈ l,AOK a):AOK (zHz l):=by
 unfold zHz;cases hl:l.getLast? with
 |none=>exact yX
 |some a=>exact h a (List.mem_of_getLast? hl)
def zLT(l:List Ans)(a:Ans):zHz (l++[a])=a:=by simp [zHz]
def zHs(ts:List Tree):∀n,qJ (List.replicate n (ts.map AV.t))=some (List.replicate n ts)
 |0=>rfl
 |n+1=>by
  have h:∀l:List Tree,trees (l.map AV.t)=some l:=fun l=>by
   induction l with
   |nil=>rfl
   |cons a l ih=>simp [trees,ih]
  simp only[List.replicate_succ,qJ,h,zHs ts n]
def zTI(ts:List Tree)(s n:Nat):zAf s (List.replicate n (ts.map AV.t))=.arr s 0 false (List.replicate n ts):=by
 unfold zAf;rw[zHs]
def zWL (T:Sl Node) (self:Val) (vnl vcl:Bool) (vars:List Bind) (hT:T.l.length<4294967295) (hK:∀x ∈ T.l,x.kids.l.length<4294967295) (mh:vars.length<9223372036854775808)
  (k0:∀x ∈ T.l,VOK x.v) (mi:VOK self) (mj:∀b ∈ vars,VOK b.v) :
  Om CC 39 [.t (.sl T.nl T.cl (T.l.map Node.c)),.t (.agg [.int .u8 self.k,.int .i64 self.n,.str self.s]),.t (.sl vnl vcl (vars.map Bind.c))] [] =
   some (.val (.tup [.t (.agg [.int .u8 (vG (T.l.map Node.s) self vars).v.k,.int .i64 (vG (T.l.map Node.s) self vars).v.n,.str (vG (T.l.map Node.s) self vars).v.s]),.t (.int .i64 (vG (T.l.map Node.s) self vars).e)]),[]):=by
 refine zL yGh rfl ?_
 (have F_:=c5 zF zG zP zE (c5 zC zB zAg zO (c5 zK zR zAh zM (c5 zI kA xN kC (c5 kE yHN yIl yIT yIB))));show W CC 0 114 (zA 39) _ ⟨[(0,_),(1,_),(2,_)],[]⟩ _)
 have ml:decide (T.l.length<4294967296)=true:=by simp;omega
 have kb:=zTI AZero.c 4 T.l.length;simp only[AZero,Zero,Ans.c,List.map_cons,List.map_nil] at kb;have h0:=zMX (T.l.map Node.s) self vars (fun x hx=>by obtain⟨y,hy,rfl⟩:=List.mem_map.1 hx;exact k0 y hy) mi mj;have mF:qJ (List.replicate T.l.length [.t (.int .u8 0),.t (.int .i64 0),.t (.str []),.t (.int .i64 0)])=some (List.replicate T.l.length AZero.c):=zHs AZero.c T.l.length
 repeat' (first|(with_reducible first|apply aA|apply zBd|apply zCR|apply zDS|apply zDB|apply zAx|apply zCS|apply zB5|apply zCU|apply zAK|apply zDN)|(refine zDW (by kernel_rfl) ?_)|(with_reducible first|apply zCT|apply zCX|apply zBW|apply zCE|apply zCF|apply zFJ|apply zFa|apply zFe|apply zGE|apply zJB|apply zGO|apply zFg)|((with_reducible apply yFy);(focus kernel_rfl))|((with_reducible apply yCx);(focus kernel_rfl);(focus kernel_rfl))|(with_reducible first|apply zQL|apply zQQ)|((with_reducible apply zQS);(refine⟨by kernel_rfl,?_⟩))|((with_reducible refine zTE (fun hg=>?_) (fun hg=>?_))<;>first|(cases hg;done)|skip)|((with_reducible refine zTk (fun hg=>?_) (fun hg=>?_))<;>first|(cases hg;done)|skip)|((with_reducible refine zXQ (fun hg=>?_) (fun hg=>?_))<;>first|(cases hg;done)|skip)|((with_reducible refine zYq (fun hg=>?_) (fun hg=>?_))<;>first|(cases hg;done)|skip)|((with_reducible apply yH3);(focus (simp only[jU,yN,Nat.le_refl,true_or,beq_true,beq_false,Bool.true_beq,Bool.false_beq,decide_true,decide_false,Int.ofNat_eq_natCast,List.length_map,List.getElem?_map,Option.map_some,wanted,exec1,zBQ,jB,xBox,jM,vH,xLen,kD,uC,wG,jH,cellsOf,zN,opds,kI,get,putT,ret,retO,lit,lit1,patch,put1,load,loadCells,cut,yC,mkAgg,trees,nth,lenOf,indexAddr,storeAt,upd,splice,vZ,uT,zBe,jF,kY,zAH,zAs,zAq,qT,qO,kW,convert,zAu,zAw,zAo,zAn,zBv,zAN,zAC,zAM,zAk,zAl,zAD,qQ,zAJ,zAA,zAy,zAE,zAF,zAt,zAm,zAI,jD,jO,Nat.beq,beq_self_eq_true,Nat.zero_add,Nat.add_zero,List.toList_toArray,List.map_cons,List.map_nil,List.length_cons,List.length_nil,List.take,List.drop,List.all_cons,List.all_nil,List.cons_append,List.nil_append,List.append_nil,Bool.and_true,Bool.true_and,Bool.not_true,Bool.not_false,Bool.and_self,if_true,if_false,reduceIte,Nat.reduceAdd,Nat.reduceLeDiff,Nat.reduceEqDiff,Sl.t,Val.c,Slot.c,Tpl.c,Fact.c,Bind.c,Node.c,Test.c,STest.c,Pat.c,intC,and_self,true_and,and_true,b00,b01,b02,b03,b04,b10,b11,b12,b13,b14,b20,b21,b22,b23,b24,b30,b31,b32,b33,b34,b40,b41,b42,b43,b44,jL,vY,reach,wT,refs,vS,catMap,depth,sub,sub1,renL,ren,renO,mem,place,fresh,xM,plain,zBm,back,zC3,zB4,vE,Way.id,Way.ver,vN,zCq,getN,view,yO,xF,zCy,zX,ne_eq,not_false_eq_true,cond_true,cond_false,zB6,Option.getD_some,elems,yN,wU,xA,wI,wI.go,zAf,qJ,setN,List.replicate,Nat.mul_one,Nat.reduceMul,Nat.reduceLT,append,added,lens,jQ,zCf,zDc,zFx,zEz,mfind,kQ,zAP,UInt8.reduceToNat,zBE,Ab.bound,Int.toNat_natCast,bne_self_eq_false,true_or,Nat.reduceLT,one1,zAO,deferred,kM,yK,zBw,kT,zBB,qV,qA,vT,zCe,zCu,zD4,zD6,uY,Bool.or_true,Bool.or_false,Bool.true_or,Bool.false_or,F_, *];exact rfl)))|((with_reducible apply yIr);(focus (simp only[jU,yN,Nat.le_refl,true_or,beq_true,beq_false,Bool.true_beq,Bool.false_beq,decide_true,decide_false,Int.ofNat_eq_natCast,List.length_map,List.getElem?_map,Option.map_some,wanted,exec1,zBQ,jB,xBox,jM,vH,xLen,kD,uC,wG,jH,cellsOf,zN,opds,kI,get,putT,ret,retO,lit,lit1,patch,put1,load,loadCells,cut,yC,mkAgg,trees,nth,lenOf,indexAddr,storeAt,upd,splice,vZ,uT,zBe,jF,kY,zAH,zAs,zAq,qT,qO,kW,convert,zAu,zAw,zAo,zAn,zBv,zAN,zAC,zAM,zAk,zAl,zAD,qQ,zAJ,zAA,zAy,zAE,zAF,zAt,zAm,zAI,jD,jO,Nat.beq,beq_self_eq_true,Nat.zero_add,Nat.add_zero,List.toList_toArray,List.map_cons,List.map_nil,List.length_cons,List.length_nil,List.take,List.drop,List.all_cons,List.all_nil,List.cons_append,List.nil_append,List.append_nil,Bool.and_true,Bool.true_and,Bool.not_true,Bool.not_false,Bool.and_self,if_true,if_false,reduceIte,Nat.reduceAdd,Nat.reduceLeDiff,Nat.reduceEqDiff,Sl.t,Val.c,Slot.c,Tpl.c,Fact.c,Bind.c,Node.c,Test.c,STest.c,Pat.c,intC,and_self,true_and,and_true,b00,b01,b02,b03,b04,b10,b11,b12,b13,b14,b20,b21,b22,b23,b24,b30,b31,b32,b33,b34,b40,b41,b42,b43,b44,jL,vY,reach,wT,refs,vS,catMap,depth,sub,sub1,renL,ren,renO,mem,place,fresh,xM,plain,zBm,back,zC3,zB4,vE,Way.id,Way.ver,vN,zCq,getN,view,yO,xF,zCy,zX,ne_eq,not_false_eq_true,cond_true,cond_false,zB6,Option.getD_some,elems,yN,wU,xA,wI,wI.go,zAf,qJ,setN,List.replicate,Nat.mul_one,Nat.reduceMul,Nat.reduceLT,append,added,lens,jQ,zJZ,zLk,zLD,vU,foot,zJz,names,kV,zOO,zNX,mfind,kQ,zAP,UInt8.reduceToNat,zBE,Ab.bound,Int.toNat_natCast,bne_self_eq_false,true_or,Nat.reduceLT,one1,zAO,deferred,kM,yK,zBw,kT,zBB,qV,qA,vT,zCe,zCu,zD4,zD6,uY,Bool.or_true,Bool.or_false,Bool.true_or,Bool.false_or,F_, *];exact rfl)))|((refine zLO (by(simp only[zN,get,lit,lit1,Nat.beq, *];exact rfl)) (fun hv=>?_) (fun hv=>?_))<;>first|(cases hv;done)|skip))
 refine yE (α:=Nat×List Ans×Ans) (fun a=>⟨[(0,.t (.sl T.nl T.cl (T.l.map Node.c))),(2,.t (.sl vnl vcl (vars.map Bind.c))),(4,.box 0 0),(6,.box 1 0),(8,.hs 2 0),(9,.box 3 0),(20,.t (.sl T.nl T.cl (T.l.map Node.c))),(21,.t (.int .i64 T.l.length)),(22,.t (.int .i64 a.1))],
   [.box [.t (.int .u8 self.k),.t (.int .i64 self.n),.t (.str self.s)],.box (Zero.c.map .t),.arr 4 0 false (a.2.1.map Ans.c),.box (a.2.2.c.map .t)]⟩)
  (fun a=>T.l.length - a.1) (fun a=>a.1≤T.l.length∧a.2.1=wN (T.l.map Node.s) self vars a.1++List.replicate (T.l.length - a.1) AZero∧a.2.2=zHz (wN (T.l.map Node.s) self vars a.1))
  (0,List.replicate T.l.length AZero,AZero) (by(simp only[xP,wK,F_,tidy,zBY,canon,reach,wT,refs,vS,catMap,depth,renL,ren,renO,sub,sub1,upto,mem,place,fresh,cond_true,Ab.get,nth,List.map,List.zip_cons_cons,List.zip_nil_left,List.zip_nil_right,List.take,List.append_nil,List.nil_append,List.cons_append,Bool.and_true,uG,decide_true,decide_false,reduceIte,Nat.reduceEqDiff,Nat.beq,Sl.t,Val.c,Slot.c,Tpl.c,Fact.c,Bind.c,Node.c,Test.c,STest.c,Pat.c,intC,AZero,Zero,Ans.c,List.map_replicate]<;>exact rfl)) ⟨Nat.zero_le _,by simp [wN],rfl⟩ ?_
 rintro⟨i,all,last⟩ ⟨hi,hQ,hH⟩
 try dsimp only at hi hQ hH
 simp only[Zero,List.map_cons,List.map_nil,Val.c];have k1:all.length=T.l.length:=by rw[hQ];simp [vX];omega
 by_cases hM:i<T.l.length
 ·have hw:=wI64 i (by omega);have he:T.l[i]?=some T.l[i]:=List.getElem?_eq_getElem hM;have hd:decide ((i:Int)<T.l.length)=true:=by simpa using hM
  have mn:=hK T.l[i] (List.getElem_mem hM);have ka:(T.l.map Node.s)[i]?=some T.l[i].s:=by rw[List.getElem?_map,he];rfl
  have mo:=k0 T.l[i] (List.getElem_mem hM);generalize T.l[i]=x at he mn ka mo;clear ml kb;have hR:Hid _:=⟨hQ⟩
  have kj:Hid _:=⟨hH⟩
  clear hQ hH
  (refine gA ?_)
  refine yE (α:=Nat×Bool×List Ans×List Bool) (fun a=>⟨[(0,.t (.sl T.nl T.cl (T.l.map Node.c))),(2,.t (.sl vnl vcl (vars.map Bind.c))),(4,.box 0 0),(6,.box 1 0),(8,.hs 2 0),(9,.box 3 0),(10,.t (.int .i64 (i:Int))),(11,.box 4 0),(12,.box 5 0),(20,.t (.sl T.nl T.cl (T.l.map Node.c))),(21,.t (.int .i64 T.l.length)),(22,.t (.int .i64 i)),(28,.t (.sl x.kids.nl x.kids.cl (x.kids.l.map intC))),(29,.t (.int .i64 x.kids.l.length)),(30,.t (.int .i64 a.1))],
   match a.2.1 with
   |true=>[.box [.t (.int .u8 self.k),.t (.int .i64 self.n),.t (.str self.s)],.box (Zero.c.map .t),.arr 4 0 false (all.map Ans.c),.box (last.c.map .t),.box ((Node.c x).map .t),.box [.hs 6 0,.hs 7 0],.arr 4 0 false (a.2.2.1.map Ans.c),.arr 1 0 false (a.2.2.2.map yU)]
   |false=>[.box [.t (.int .u8 self.k),.t (.int .i64 self.n),.t (.str self.s)],.box (Zero.c.map .t),.arr 4 0 false (all.map Ans.c),.box (last.c.map .t),.box ((Node.c x).map .t),.box [.t (.sl true true []),.t (.sl true true [])]]⟩)
   (fun a=>x.kids.l.length - a.1) (fun a=>a.1≤x.kids.l.length∧a.2.1=decide (0<a.1)∧a.2.2.1=(x.kids.l.take a.1).map (fun k=>(kidA (wN (T.l.map Node.s) self vars i) (T.l.map Node.s) k).1)∧a.2.2.2=(x.kids.l.take a.1).map (fun k=>(kidA (wN (T.l.map Node.s) self vars i) (T.l.map Node.s) k).2))
   (0,false,[],[]) (by(have X_:=c2 @Zero.eq_1 @Ans.c.eq_1;exact aTdX)) ⟨Nat.zero_le _,rfl,rfl,rfl⟩ ?_
  rintro⟨j,st,kl,nb⟩ ⟨hj,hI,hG,hJ⟩
  try dsimp only at hj hI hG hJ
  simp only[Zero,List.map_cons,List.map_nil,Val.c]
  by_cases kk:j<x.kids.l.length
  ·have mG:=wI64 j (by omega);have hU:x.kids.l[j]?=some x.kids.l[j]:=List.getElem?_eq_getElem kk;have mq:decide ((j:Int)<x.kids.l.length)=true:=by simpa using kk
   have km:x.kids.l.take (j+1)=x.kids.l.take j++[x.kids.l[j]]:=by rw[List.take_add_one,hU];rfl
   have hc:kl.length=j:=by rw[hG];simp;omega
   have hD:nb.length=j:=by rw[hJ];simp;omega
   have kg:lens 4 (kl.map Ans.c)=true:=qM Ans.c 4 (fun a=>rfl) kl;have hW:lens 1 (nb.map yU)=true:=qM yU 1 (fun a=>rfl) nb;have kh:decide (j+1<4294967296)=true:=by simp;omega
   generalize x.kids.l[j]=k at hU km;have hq:∀q:Ans×Bool,kidA (wN (T.l.map Node.s) self vars i) (T.l.map Node.s) k=q→(kl++[q.1]=(x.kids.l.take (j+1)).map (fun k=>(kidA (wN (T.l.map Node.s) self vars i) (T.l.map Node.s) k).1))∧(nb++[q.2]=(x.kids.l.take (j+1)).map (fun k=>(kidA (wN (T.l.map Node.s) self vars i) (T.l.map Node.s) k).2)):=fun q hq=>by
    rw[km,hG,hJ];simp [hq]
   clear hG hJ km;have ko:Hid _:=⟨h0⟩
   clear h0;cases k2:decide (k<0) with
   |true =>
    have hF:Hid _:=⟨hq (AZero,false) (by unfold kidA;rw[if_pos];exact .inl (by simpa using k2))⟩
    clear hq ka;cases st with
    |true =>
     clear hI
     (refine gA ?_)
     refine zD (j+1,true,kl++[AZero],nb++[false]) (by first|omega|(dsimp only;omega)) ⟨by first|omega|(dsimp only;omega),by simp,hF.h.1,hF.h.2⟩ (by(have X_:=c5 @mapA @yU.eq_1 @AZero.eq_1 @Zero.eq_1 @Ans.c.eq_1;exact aTdX))
    |false =>
     have hV:j=0:=by simpa using hI
     subst hV;obtain rfl:kl=[]:=List.length_eq_zero_iff.1 hc;obtain rfl:nb=[]:=List.length_eq_zero_iff.1 hD;have hU:x.kids.l[0]?=some _:=hU;clear hI hc hD kg hW kh
     (refine gA ?_)
     refine zD (1,true,[AZero],[false]) (by first|omega|(dsimp only;omega)) ⟨by first|omega|(dsimp only;omega),rfl,hF.h.1,hF.h.2⟩ (by(have X_:=c5 @mapA @yU.eq_1 @AZero.eq_1 @Zero.eq_1 @Ans.c.eq_1;exact aTdX))
   |false =>
    cases k3:decide (k ≥ (i:Int)) with
    |true =>
     have hF:Hid _:=⟨hq (AZero,false) (by unfold kidA;rw[if_pos];exact .inr (by rw[vX];simpa using k3))⟩
     clear hq ka;cases st with
     |true =>
      clear hI
      (refine gA ?_)
      refine zD (j+1,true,kl++[AZero],nb++[false]) (by first|omega|(dsimp only;omega)) ⟨by first|omega|(dsimp only;omega),by simp,hF.h.1,hF.h.2⟩ (by(have X_:=c5 @mapA @yU.eq_1 @AZero.eq_1 @Zero.eq_1 @Ans.c.eq_1;exact aTdX))
     |false =>
      have hV:j=0:=by simpa using hI
      subst hV;obtain rfl:kl=[]:=List.length_eq_zero_iff.1 hc;obtain rfl:nb=[]:=List.length_eq_zero_iff.1 hD;have hU:x.kids.l[0]?=some _:=hU;clear hI hc hD kg hW kh
      (refine gA ?_)
      refine zD (1,true,[AZero],[false]) (by first|omega|(dsimp only;omega)) ⟨by first|omega|(dsimp only;omega),rfl,hF.h.1,hF.h.2⟩ (by(have X_:=c5 @mapA @yU.eq_1 @AZero.eq_1 @Zero.eq_1 @Ans.c.eq_1;exact aTdX))
    |false =>
     have ms:0≤k:=by simpa using k2
     obtain⟨q,rfl⟩:=Int.eq_ofNat_of_zero_le ms;have k4:q<i:=by
                 have:¬ ((q:Int) ≥ i):=by simpa using k3
                 omega
     have mt:q<T.l.length:=by omega
     have k5:T.l[q]?=some T.l[q]:=List.getElem?_eq_getElem mt;have k6:(T.l.map Node.s)[q]?=some T.l[q].s:=by rw[List.getElem?_map,k5];rfl
     have k7:all[q]?=some (getA (wN (T.l.map Node.s) self vars i) q):=by
      rw[hR.h,List.getElem?_append_left (by rw[vX];exact k4)];unfold getA;rw[List.getD_eq_getElem?_getD,List.getElem?_eq_getElem (by rw[vX];exact k4)];rfl
     have hZ:kidA (wN (T.l.map Node.s) self vars i) (T.l.map Node.s) (q:Int)=(getA (wN (T.l.map Node.s) self vars i) q,T.l[q].s.nul):=by
      unfold kidA;rw[if_neg (by rw[vX];omega)];simp only[Int.toNat_natCast,k6]
     generalize T.l[q]=y at k5 hZ;have hF:=hq _ hZ;generalize getA (wN (T.l.map Node.s) self vars i) q=ga at k7 hF;have mu:(q:Int)<(T.l.length:Int):=by omega
     have kp:nth (all.map Ans.c) q=some ga.c:=by rw[yP,List.getElem?_map,k7];rfl
     obtain⟨⟨gk,gn,gs⟩,ge⟩:=ga;simp only[Ans.c] at kp;clear hq ka k6 hZ;have hY:y.s.nul=(y.op==1&&y.v.k==0):=rfl;rw[hY] at hF;clear hY;cases k8:y.op==1 with
     |true =>
      rw[k8,Bool.true_and] at hF;have hF:Hid _:=⟨hF⟩
      cases st with
      |true =>
       clear hI
       (refine gA ?_)
       refine zD (j+1,true,kl++[⟨⟨gk,gn,gs⟩,ge⟩],nb++[y.v.k==0]) (by first|omega|(dsimp only;omega)) ⟨by first|omega|(dsimp only;omega),by simp,hF.h.1,hF.h.2⟩ (by(have X_:=c5 @mapA @yU.eq_1 @AZero.eq_1 @Zero.eq_1 (c2 @Ans.c.eq_1 @Int.toNat_natCast);exact aTdX))
      |false =>
       have hV:j=0:=by simpa using hI
       subst hV;obtain rfl:kl=[]:=List.length_eq_zero_iff.1 hc;obtain rfl:nb=[]:=List.length_eq_zero_iff.1 hD;have hU:x.kids.l[0]?=some _:=hU;clear hI hc hD kg hW kh
       (refine gA ?_)
       refine zD (1,true,[⟨⟨gk,gn,gs⟩,ge⟩],[y.v.k==0]) (by first|omega|(dsimp only;omega)) ⟨by first|omega|(dsimp only;omega),rfl,hF.h.1,hF.h.2⟩ (by(have X_:=c5 @mapA @yU.eq_1 @AZero.eq_1 @Zero.eq_1 (c2 @Ans.c.eq_1 @Int.toNat_natCast);exact aTdX))
     |false =>
      rw[k8,Bool.false_and] at hF;have hF:Hid _:=⟨hF⟩
      cases st with
      |true =>
       clear hI
       (refine gA ?_)
       refine zD (j+1,true,kl++[⟨⟨gk,gn,gs⟩,ge⟩],nb++[false]) (by first|omega|(dsimp only;omega)) ⟨by first|omega|(dsimp only;omega),by simp,hF.h.1,hF.h.2⟩ (by(have X_:=c5 @mapA @yU.eq_1 @AZero.eq_1 @Zero.eq_1 (c2 @Ans.c.eq_1 @Int.toNat_natCast);exact aTdX))
      |false =>
       have hV:j=0:=by simpa using hI
       subst hV;obtain rfl:kl=[]:=List.length_eq_zero_iff.1 hc;obtain rfl:nb=[]:=List.length_eq_zero_iff.1 hD;have hU:x.kids.l[0]?=some _:=hU;clear hI hc hD kg hW kh
       (refine gA ?_)
       refine zD (1,true,[⟨⟨gk,gn,gs⟩,ge⟩],[false]) (by first|omega|(dsimp only;omega)) ⟨by first|omega|(dsimp only;omega),rfl,hF.h.1,hF.h.2⟩ (by(have X_:=c5 @mapA @yU.eq_1 @AZero.eq_1 @Zero.eq_1 (c2 @Ans.c.eq_1 @Int.toNat_natCast);exact aTdX))
  have mq:decide ((j:Int)<x.kids.l.length)=false:=by simpa using kk
  have k9:j=x.kids.l.length:=by omega
  have mf:(i:Int)<(T.l.length:Int):=by omega
  have me:(0:Int)≤(i:Int):=by omega
  have kc:nth (all.map Ans.c) i=some AZero.c:=by
   rw[yP,List.getElem?_map,hR.h,List.getElem?_append_right (by rw[vX];exact Nat.le_refl _),vX,Nat.sub_self];have hr:T.l.length - i=(T.l.length - (i+1))+1:=by omega
   rw[hr,List.replicate_succ];rfl
  simp only[AZero,Zero,Ans.c] at kc;have ma:=zYM x.op x.v x.name (.sl x.kids.nl x.kids.cl (x.kids.l.map intC)) (.int .i64 x.line) (.int .i64 x.col) self vnl vcl vars mh;have hP:∀a ∈ kl,AOK a:=by
   rw[hG];intro a ha;obtain⟨k,_,rfl⟩:=List.mem_map.1 ha;exact yDS _ _ _ (h0 i)
  have hX:kl.length<4294967295:=by rw[hG];simp;omega
  have hc:kl.length=j:=by rw[hG];simp;omega
  have hu:zDh (wN (T.l.map Node.s) self vars i) (T.l.map Node.s) x.s self vars=if (qF x.op x.v x.name self vars).2 then (qF x.op x.v x.name self vars).1 else if (uJ x.op kl nb).2 then (uJ x.op kl nb).1 else jY x.op kl nb:=by
   rw[k9,List.take_length] at hG hJ;unfold zDh;rw[hG,hJ];rfl
  have hO:∀a,zDh (wN (T.l.map Node.s) self vars i) (T.l.map Node.s) x.s self vars=a→all.set i a=wN (T.l.map Node.s) self vars (i+1)++List.replicate (T.l.length - (i+1)) AZero∧a=zHz (wN (T.l.map Node.s) self vars (i+1)):=fun a ha=>by
   have kv:wN (T.l.map Node.s) self vars (i+1)=wN (T.l.map Node.s) self vars i++[a]:=by rw[wN,ka];simp only[ha]
   rw[kv];refine⟨?_,(zLT _ _).symm⟩;rw[hR.h,List.set_append_right _ _ (by rw[vX];exact Nat.le_refl _),vX,Nat.sub_self];have hr:T.l.length - i=(T.l.length - (i+1))+1:=by omega
   rw[hr,List.replicate_succ,List.set_cons_zero,List.append_assoc];rfl
  have hS:j=0→nb=[]:=fun h=>by rw[hJ,h];rfl
  have ko:Hid _:=⟨h0⟩
  clear hG hJ h0 ka k9;cases st with
  |true =>
   have hN:kl.isEmpty=false:=by
    cases kl with
    |nil=>simp at hI hc;omega
    |cons a l=>rfl
   clear hI hc hS;have kd:=zNt x.op kl nb false hN hP;have ke:=zNE x.op kl nb false hN hP hX;clear hP hX hN;generalize qF x.op x.v x.name self vars=lf at ma hu;generalize uJ x.op kl nb=tr at kd hu;generalize jY x.op kl nb=ot at ke hu;obtain⟨⟨⟨lk,ln,ls⟩,le⟩,lb⟩:=lf;obtain⟨⟨⟨tk,tn,tS⟩,te⟩,tb⟩:=tr;obtain⟨⟨ok,on,os⟩,oe⟩:=ot;have hA:Hid _:=⟨hO⟩
   have hC:Hid _:=⟨hu⟩
   clear hO hu;simp only[List.map_nil] at kd ke;cases lb with
   |true =>
    have hf:=hA.h ⟨⟨lk,ln,ls⟩,le⟩ (by rw[hC.h];rfl)
    (have x0_:=@Ans.c.eq_1;have x1_:=@uS.eq_1;(refine gA ?_);all_goals clear x0_ x1_)
    refine zD (i+1,all.set i ⟨⟨lk,ln,ls⟩,le⟩,⟨⟨lk,ln,ls⟩,le⟩) (by first|omega|(dsimp only;omega)) ⟨by first|omega|(dsimp only;omega),hf.1,hf.2⟩ (by(have X_:=c5 @uZ @mapS @AZero.eq_1 @Zero.eq_1 @Ans.c.eq_1;exact aTdX))
   |false =>
    cases tb with
    |true =>
     have hf:=hA.h ⟨⟨tk,tn,tS⟩,te⟩ (by rw[hC.h];rfl)
     (have x0_:=@Ans.c.eq_1;have x1_:=@uS.eq_1;(refine gA ?_);all_goals clear x0_ x1_)
     refine zD (i+1,all.set i ⟨⟨tk,tn,tS⟩,te⟩,⟨⟨tk,tn,tS⟩,te⟩) (by first|omega|(dsimp only;omega)) ⟨by first|omega|(dsimp only;omega),hf.1,hf.2⟩ (by(have X_:=c5 @uZ @mapS @AZero.eq_1 @Zero.eq_1 @Ans.c.eq_1;exact aTdX))
    |false =>
     have hf:=hA.h ⟨⟨ok,on,os⟩,oe⟩ (by rw[hC.h];rfl)
     (have x0_:=@Ans.c.eq_1;have x1_:=@uS.eq_1;(refine gA ?_);all_goals clear x0_ x1_)
     refine zD (i+1,all.set i ⟨⟨ok,on,os⟩,oe⟩,⟨⟨ok,on,os⟩,oe⟩) (by first|omega|(dsimp only;omega)) ⟨by first|omega|(dsimp only;omega),hf.1,hf.2⟩ (by(have X_:=c5 @uZ @mapS @AZero.eq_1 @Zero.eq_1 @Ans.c.eq_1;exact aTdX))
  |false =>
   have hV:j=0:=by simpa using hI
   have kr:kl=[]:=List.length_eq_zero_iff.1 (by omega);subst kr;have kt:nb=[]:=hS hV;subst kt;have hN:([]:List Ans).isEmpty=true:=rfl;clear hI hc hS hV;have kd:=zNt x.op ([]:List Ans) ([]:List Bool) true hN hP;have ke:=zNE x.op ([]:List Ans) ([]:List Bool) true hN hP hX;clear hP hX hN;generalize qF x.op x.v x.name self vars=lf at ma hu;generalize uJ x.op ([]:List Ans) ([]:List Bool)=tr at kd hu;generalize jY x.op ([]:List Ans) ([]:List Bool)=ot at ke hu;obtain⟨⟨⟨lk,ln,ls⟩,le⟩,lb⟩:=lf;obtain⟨⟨⟨tk,tn,tS⟩,te⟩,tb⟩:=tr;obtain⟨⟨ok,on,os⟩,oe⟩:=ot;have hA:Hid _:=⟨hO⟩
   have hC:Hid _:=⟨hu⟩
   clear hO hu;simp only[List.map_nil] at kd ke;cases lb with
   |true =>
    have hf:=hA.h ⟨⟨lk,ln,ls⟩,le⟩ (by rw[hC.h];rfl)
    (have x0_:=@Ans.c.eq_1;have x1_:=@uS.eq_1;(refine gA ?_);all_goals clear x0_ x1_)
    refine zD (i+1,all.set i ⟨⟨lk,ln,ls⟩,le⟩,⟨⟨lk,ln,ls⟩,le⟩) (by first|omega|(dsimp only;omega)) ⟨by first|omega|(dsimp only;omega),hf.1,hf.2⟩ (by(have X_:=c5 @uZ @mapS @AZero.eq_1 @Zero.eq_1 @Ans.c.eq_1;exact aTdX))
   |false =>
    cases tb with
    |true =>
     have hf:=hA.h ⟨⟨tk,tn,tS⟩,te⟩ (by rw[hC.h];rfl)
     (have x0_:=@Ans.c.eq_1;have x1_:=@uS.eq_1;(refine gA ?_);all_goals clear x0_ x1_)
     refine zD (i+1,all.set i ⟨⟨tk,tn,tS⟩,te⟩,⟨⟨tk,tn,tS⟩,te⟩) (by first|omega|(dsimp only;omega)) ⟨by first|omega|(dsimp only;omega),hf.1,hf.2⟩ (by(have X_:=c5 @uZ @mapS @AZero.eq_1 @Zero.eq_1 @Ans.c.eq_1;exact aTdX))
    |false =>
     have hf:=hA.h ⟨⟨ok,on,os⟩,oe⟩ (by rw[hC.h];rfl)
     (have x0_:=@Ans.c.eq_1;have x1_:=@uS.eq_1;(refine gA ?_);all_goals clear x0_ x1_)
     refine zD (i+1,all.set i ⟨⟨ok,on,os⟩,oe⟩,⟨⟨ok,on,os⟩,oe⟩) (by first|omega|(dsimp only;omega)) ⟨by first|omega|(dsimp only;omega),hf.1,hf.2⟩ (by(have X_:=c5 @uZ @mapS @AZero.eq_1 @Zero.eq_1 @Ans.c.eq_1;exact aTdX))
 have hd:decide ((i:Int)<T.l.length)=false:=by simpa using hM
 have mb:i=T.l.length:=by omega
 have hE:vG (T.l.map Node.s) self vars=last:=by unfold vG;rw[List.length_map,← mb];exact hH.symm
 rw[hE];clear hQ hH h0 hE mb;obtain⟨⟨lk,ln,ls⟩,le⟩:=last
 (have x0_:=@Ans.c.eq_1;(refine gA ?_);all_goals clear x0_)
 (refine aK ?_ ?_)
 ·rfl
 rfl
end Go.Ab
