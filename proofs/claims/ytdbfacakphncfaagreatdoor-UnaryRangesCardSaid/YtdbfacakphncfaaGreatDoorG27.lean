/- Lemmas. -/
import Derived.Test.YtdbfacakphncfaaGreatDoorG26
import Derived.Test.YtdbfacakphncfaaGreatDoorG23
set_option maxRecDepth 1000000
set_option maxHeartbeats 40000000
set_option linter.all false
namespace Go.Ab
open Go.Proofs
attribute [local irreducible] W RW RR
def zNJ(x y:RN)(k:Nat)(hx:RNK k x)(hy:RNK k y)(hk:k<4294966000):∃z:RN,Om CC 193 [.t (.agg x.c),.t (.agg y.c)] []=some (.val (.t (.agg z.c)),[])∧(RNK (k+1) z∧z.v=x.v - y.v):=by
 obtain⟨u,hu,u1,u2⟩:=zJF y k hy (by omega);obtain⟨z,hz,z1,z2,-⟩:=zOo x u k hx u1 hk;have hR:Hid (RNK (k+1) z∧z.v=x.v - y.v):=⟨z1,by rw[z2,u2];omega⟩
 clear u1 u2 z1 z2 hx hy hk;obtain⟨xn,xl⟩:=x;obtain⟨yn,yl⟩:=y;obtain⟨un,ul⟩:=u;obtain⟨zn,zl⟩:=z;refine zH yAF rfl ?_;simp only[RN.c,Sl.t] at *
 (have F_:=c5 zG zN zK vX (c3 yDc zUT zUY);show W CC 0 9 (zA 193) _ ⟨[(0,_),(1,_)],[]⟩ _)
 (repeat' first|refine gA ?_|refine gT ?_ ?_<;>intro hv<;>try cases hv;done|fail)
 all_goals refine aM ?_<;>exact⟨⟨_,_⟩,⟨rfl,rfl⟩,hR.h⟩
def xa6:=c5 zG zN zK vX (c2 zOc zLa)
def zJu(x y:RN)(k:Nat)(hx:RNK k x)(hy:RNK k y)(hk:k<4294966000):∃c:Int,Om CC 155 [.t (.agg x.c),.t (.agg y.c)] []=some (.val (.t (.int .i64 c)),[])∧((c≤0→x.v≤y.v)):=by
 obtain⟨z,hz,z1,z2⟩:=zNJ x y k hx hy hk;have hR1:Hid (z.neg=true→x.v≤y.v):=⟨fun h=>by
  have:=qM z1.dg;unfold RN.v at z2;rw[h] at z2;simp only[if_true] at z2;unfold RN.v;omega⟩
 have hR2:Hid (z.d.l=[]→x.v≤y.v):=⟨fun h=>by
  unfold RN.v at z2;rw[h] at z2;simp only[dv,Int.neg_zero,ite_self] at z2;unfold RN.v;omega⟩
 clear z1 z2 hx hy hk;obtain⟨xn,xl⟩:=x;obtain⟨yn,yl⟩:=y;obtain⟨zn,znl,zcl,zl⟩:=z;refine zH zYY rfl ?_;simp only[RN.c,Sl.t] at *;cases zn with
 |true =>
  (have F_:=xa6;show W CC 0 15 (zA 155) _ ⟨[(0,_),(1,_)],[]⟩ _)
  (repeat' first|refine gA ?_|refine gT ?_ ?_<;>intro hv<;>try cases hv;done|fail)
  all_goals refine aM ?_<;>exact⟨_,⟨rfl,rfl⟩,fun _=>hR1.h rfl⟩
 |false =>
  cases zl with
  |nil =>
   (have F_:=xa6;show W CC 0 15 (zA 155) _ ⟨[(0,_),(1,_)],[]⟩ _)
   (repeat' first|refine gA ?_|refine gT ?_ ?_<;>intro hv<;>try cases hv;done|fail)
   all_goals refine aM ?_<;>exact⟨_,⟨rfl,rfl⟩,fun _=>hR2.h rfl⟩
  |cons a r =>
   have hd:decide (((a::r).length:Int) > 0)=true:=decide_eq_true (by simp only[List.length_cons];omega);generalize a::r=l at *
   (have F_:=xa6;show W CC 0 15 (zA 155) _ ⟨[(0,_),(1,_)],[]⟩ _)
   (repeat' first|refine gA ?_|refine gT ?_ ?_<;>intro hv<;>try cases hv;done|fail)
   all_goals refine aM ?_<;>exact⟨_,⟨rfl,rfl⟩,fun h=>absurd h (by decide)⟩
def zGU:∀n:Nat,vO (List.replicate n [.t (.int .i64 0)])=some ((List.replicate n (0:Int)).map intC)
 |0=>rfl
 |n+1=>by rw[List.replicate_succ,vO,zGU n];rfl
def zOA(x y:RN)(k m:Nat)(hx:RNK k x)(hy:RNK m y)(hk:k+m<4294966000):∃z:RN,Om CC 152 [.t (.agg x.c),.t (.agg y.c)] []=some (.val (.t (.agg z.c)),[])∧(RNK (k+m) z∧z.v=x.v * y.v):=by
 refine zH zYF rfl ?_;obtain⟨xn,xnl,xcl,xl⟩:=x;obtain⟨yn,ynl,ycl,yl⟩:=y;simp only[RN.c,Sl.t]
 (have F_:=c5 zG zN zK vX (c5 yCW zKa zF7 @zGj @zCH);show W CC 0 69 (zA 152) _ ⟨[(0,_),(1,_)],[]⟩ _)
 (repeat' first|refine gA ?_|refine gT ?_ ?_<;>intro hv<;>try cases hv;done|fail)
 refine zW (α:=Nat×RN) (fun s=>⟨[(2,.box 0 0),(3,.box 1 0),(4,.box 2 0),(5,.box 3 0),(6,.t (.int .i64 s.1))],
  [.box [.t (.bool xn),.t (.sl xnl xcl (xl.map intC))],.box [.t (.bool yn),.t (.sl ynl ycl (yl.map intC))],.box [.t (.bool false),.t (.sl true true [])],.box [.t (.bool s.2.neg),.t (s.2.d.t intC)]]⟩) (fun s=>yl.length - s.1)
  (fun s=>s.1≤yl.length∧s.2.neg=false∧RNK (xl.length+s.1) s.2∧dv s.2.d.l=dv xl * dv (yl.take s.1)) (0,⟨false,true,true,[]⟩) (by kernel_rfl) ⟨Nat.zero_le _,rfl,⟨zA5,zIj,fun h=>(by cases h),Nat.zero_le _⟩,by simp [dv]⟩ ?_
 rintro⟨i,sn,snl,scl,sl⟩ ⟨hi,hsn,hsk,hsv⟩;dsimp only at hi hsn hsk hsv;subst hsn;simp only[Sl.t];have lx:=hx.ln;have ly:=hy.ln;have ls:=hsk.ln;dsimp only at lx ly ls
 by_cases hi':i<yl.length
 ·have hd:decide ((i:Int)<(yl.length:Int))=true:=decide_eq_true (by omega);have hyi:yl[i]?=some yl[i]:=List.getElem?_eq_getElem hi';have hw:=hy.dg yl[i] (List.getElem_mem hi');generalize yl[i]=w at hyi hw;have hmk:decide (i<4294967296)=true:=decide_eq_true (by omega);have htl:=zGU i;have hs2:Hid _:=⟨And.intro hsk hsv⟩
  have hx2:Hid _:=⟨hx⟩
  have hy2:Hid _:=⟨hy⟩
  have hw2:Hid _:=⟨hw⟩
  clear hsk hsv hx hy hw hi
  repeat' (first|(with_reducible first|apply aA|apply jQ|apply zAS|apply zBu|apply zBt|apply kS|apply zAQ|apply zAw|apply zAL|apply kU|apply zBj)|(refine zBz (by kernel_rfl) ?_)|(with_reducible first|apply zAK|apply zAP|apply zAy|apply zAM|apply zAR|apply zBg|apply zCF|apply zCJ|apply zEg|apply zFo|apply zEc|apply zCC)|((with_reducible apply zRO);(focus kernel_rfl))|((with_reducible apply zQ1);(focus kernel_rfl);(focus kernel_rfl))|(with_reducible first|apply zIL|apply zIF)|((with_reducible apply zIY);(refine⟨by kernel_rfl,?_⟩))|((with_reducible refine zKZ (fun hg=>?_) (fun hg=>?_))<;>first|(cases hg;done)|skip)|((with_reducible refine zLk (fun hg=>?_) (fun hg=>?_))<;>first|(cases hg;done)|skip)|((with_reducible refine zNh (fun hg=>?_) (fun hg=>?_))<;>first|(cases hg;done)|skip)|((with_reducible refine zNn (fun hg=>?_) (fun hg=>?_))<;>first|(cases hg;done)|skip)|((with_reducible apply zRs);(focus (simp only[kR,Nat.le_refl,true_or,beq_true,beq_false,Bool.true_beq,Bool.false_beq,decide_true,decide_false,Int.ofNat_eq_natCast,List.length_map,List.getElem?_map,Option.map_some,wanted,exec1,zAr,qE,xBox,qO,wB,xLen,uT,wN,xH,qD,cellsOf,zJ,opds,qG,get,putT,ret,retO,lit,lit1,patch,put1,load,loadCells,cut,yB,mkAgg,trees,nth,lenOf,indexAddr,storeAt,upd,splice,wP,wU,zAm,uI,uG,kK,kJ,kO,vG,vI,uH,convert,kC,qU,kF,qV,zAc,qT,qW,qS,kE,kB,kA,vY,kI,kM,qZ,qX,kN,qY,kL,kG,uL,qI,Nat.beq,beq_self_eq_true,Nat.zero_add,Nat.add_zero,List.toList_toArray,List.map_cons,List.map_nil,List.length_cons,List.length_nil,List.take,List.drop,List.all_cons,List.all_nil,List.cons_append,List.nil_append,List.append_nil,Bool.and_true,Bool.true_and,Bool.not_true,Bool.not_false,Bool.and_self,if_true,if_false,reduceIte,Nat.reduceAdd,Nat.reduceLeDiff,Nat.reduceEqDiff,Sl.t,Val.c,Slot.c,Tpl.c,Fact.c,Bind.c,Node.c,Test.c,STest.c,Pat.c,intC,and_self,true_and,and_true,b00,b01,b02,b03,b04,b10,b11,b12,b13,b14,b20,b21,b22,b23,b24,b30,b31,b32,b33,b34,b40,b41,b42,b43,b44,qN,wQ,reach,wG,refs,wS,catMap,depth,sub,sub1,renL,ren,renO,mem,place,fresh,xB,plain,jX,back,zAV,zAv,wF,Way.id,Way.ver,wM,zAG,getN,view,yK,yV,zAe,yA,ne_eq,not_false_eq_true,cond_true,cond_false,jV,Option.getD_some,elems,yF,xN,yQ,xC,xC.go,zAj,vO,setN,List.replicate,Nat.mul_one,Nat.reduceMul,Nat.reduceLT,append,added,lens,uV,zAA,zAT,zCt,zBx,mfind,uQ,kP,UInt8.reduceToNat,zAg,Ab.bound,Int.toNat_natCast,bne_self_eq_false,true_or,Nat.reduceLT,one1,kD,deferred,qA,yG,jW,uS,jZ,vW,vB,wH,zAt,zAD,zBi,zBh,vC,Bool.or_true,Bool.or_false,Bool.true_or,Bool.false_or,F_, *];exact rfl)))|((with_reducible apply zRt);(focus (simp only[kR,Nat.le_refl,true_or,beq_true,beq_false,Bool.true_beq,Bool.false_beq,decide_true,decide_false,Int.ofNat_eq_natCast,List.length_map,List.getElem?_map,Option.map_some,wanted,exec1,zAr,qE,xBox,qO,wB,xLen,uT,wN,xH,qD,cellsOf,zJ,opds,qG,get,putT,ret,retO,lit,lit1,patch,put1,load,loadCells,cut,yB,mkAgg,trees,nth,lenOf,indexAddr,storeAt,upd,splice,wP,wU,zAm,uI,uG,kK,kJ,kO,vG,vI,uH,convert,kC,qU,kF,qV,zAc,qT,qW,qS,kE,kB,kA,vY,kI,kM,qZ,qX,kN,qY,kL,kG,uL,qI,Nat.beq,beq_self_eq_true,Nat.zero_add,Nat.add_zero,List.toList_toArray,List.map_cons,List.map_nil,List.length_cons,List.length_nil,List.take,List.drop,List.all_cons,List.all_nil,List.cons_append,List.nil_append,List.append_nil,Bool.and_true,Bool.true_and,Bool.not_true,Bool.not_false,Bool.and_self,if_true,if_false,reduceIte,Nat.reduceAdd,Nat.reduceLeDiff,Nat.reduceEqDiff,Sl.t,Val.c,Slot.c,Tpl.c,Fact.c,Bind.c,Node.c,Test.c,STest.c,Pat.c,intC,and_self,true_and,and_true,b00,b01,b02,b03,b04,b10,b11,b12,b13,b14,b20,b21,b22,b23,b24,b30,b31,b32,b33,b34,b40,b41,b42,b43,b44,qN,wQ,reach,wG,refs,wS,catMap,depth,sub,sub1,renL,ren,renO,mem,place,fresh,xB,plain,jX,back,zAV,zAv,wF,Way.id,Way.ver,wM,zAG,getN,view,yK,yV,zAe,yA,ne_eq,not_false_eq_true,cond_true,cond_false,jV,Option.getD_some,elems,yF,xN,yQ,xC,xC.go,zAj,vO,setN,List.replicate,Nat.mul_one,Nat.reduceMul,Nat.reduceLT,append,added,lens,uV,zDS,zEq,zEH,vD,foot,zFy,names,kT,zG7,zFn,mfind,uQ,kP,UInt8.reduceToNat,zAg,Ab.bound,Int.toNat_natCast,bne_self_eq_false,true_or,Nat.reduceLT,one1,kD,deferred,qA,yG,jW,uS,jZ,vW,vB,wH,zAt,zAD,zBi,zBh,vC,Bool.or_true,Bool.or_false,Bool.true_or,Bool.false_or,F_, *];exact rfl)))|((refine zGp (by(simp only[zJ,get,lit,lit1,Nat.beq, *];exact rfl)) (fun hv=>?_) (fun hv=>?_))<;>first|(cases hv;done)|skip))
  refine zW (α:=Nat×Int×List Int) (fun s=>⟨[(2,.box 0 0),(3,.box 1 0),(4,.box 2 0),(5,.box 3 0),(6,.t (.int .i64 i)),(7,.hs 4 0),(8,.t (.int .i64 s.2.1)),(9,.t (.int .i64 s.1))],
   [.box [.t (.bool xn),.t (.sl xnl xcl (xl.map intC))],.box [.t (.bool yn),.t (.sl ynl ycl (yl.map intC))],.box [.t (.bool false),.t (.sl true true [])],.box [.t (.bool false),.t (.sl snl scl (sl.map intC))],.arr 1 0 false (s.2.2.map intC)]⟩) (fun s=>xl.length+1 - s.1)
   (fun s=>MuI xl w i s.1 s.2.1 s.2.2) (0,0,List.replicate i 0) (by exact aTd) (yHP _ _ _) ?_
  rintro⟨j,more,out⟩ hI;dsimp only at hI;have hle:lens 1 (out.map intC)=true:=vF intC 1 (fun a=>rfl) out;obtain⟨x,hx,hxd⟩:=zGt xl j hx2.h.dg;have hol:=hI.1;have hjl:=hI.2.1;have hm1:=hI.2.2.2.2.1;have hxw:=zQj ⟨hx.1,hx.2.1⟩ hw2.h;have hI2:Hid _:=⟨hI⟩
  have hS:Hid (∀hn:j<xl.length∨more > 0,MuI xl w i (j+1) ((more+x * w).tdiv 10000) (out++[(more+x * w).tmod 10000])):=⟨yIA hI hw2.h hx⟩
  have w1:IntKind.i64.wrap (x * w)=x * w:=by rw[wrap64]<;>omega
  have w2:IntKind.i64.wrap (more+x * w)=more+x * w:=by rw[wrap64]<;>omega
  have w3:IntKind.i64.wrap ((more+x * w).tdiv 10000)=(more+x * w).tdiv 10000:=by rw[zKf (by omega),wrap64]<;>omega
  have wj:=wI64 j (by omega);have wi:=wI64 i (by omega);have hn10:(10000:Int)≠0:=by decide
  have hsm:decide (out.length+1<4294967296)=true:=decide_eq_true (by omega);have hg:Hid (j<xl.length∨more > 0→xl.length+1 - (j+1)<xl.length+1 - j):=⟨fun h=>by have:=hI.2.2.1;omega⟩
  clear hI htl hmk hx hxw hjl hm1;rcases hxd with ⟨d1,e1⟩|⟨d1,rfl⟩
  ·have hn:j<xl.length∨more > 0:=.inl (by have:=of_decide_eq_true d1;omega);have hq:Hid _:=⟨hS.h hn⟩
   have hg2:Hid _:=⟨hg.h hn⟩
   have hbb:Hid _:=⟨hol⟩
   clear hS hn hg hol
   (repeat' first|refine gA ?_|refine gT ?_ ?_<;>intro hv<;>try cases hv;done|fail)
   all_goals exact zB (j+1,_,_) hg2.h hq.h (by(have X_:=@mapA;exact aTdX))
  simp only[Int.zero_mul,Int.add_zero] at w1 w2 w3 hS
  by_cases hm:more > 0
  ·have dm:decide (more > 0)=true:=decide_eq_true hm;have hq:Hid _:=⟨hS.h (.inr hm)⟩
   have hg2:Hid _:=⟨hg.h (.inr hm)⟩
   have hbb:Hid _:=⟨hol⟩
   clear hS hm hg hol
   (repeat' first|refine gA ?_|refine gT ?_ ?_<;>intro hv<;>try cases hv;done|fail)
   all_goals exact zB (j+1,_,_) hg2.h hq.h (by(have X_:=@mapA;exact aTdX))
  have dm:decide (more > 0)=false:=decide_eq_false hm;obtain⟨g1,g2,g3⟩:=zX1 hI2.h d1 hm;obtain⟨up,hup,u1,u2,u3⟩:=zPS sl out snl scl false false hs2.h.1.dg g1 (by omega) (by omega);obtain⟨z,hz,z1,z2,z3,z4⟩:=zBX false up u1 (by omega);have hzn:=z3 rfl;have hv:dv z.d.l=dv xl * dv (yl.take (i+1)):=by
   rw[z2,u2,hs2.h.2,g2,zSP hyi hi',Int.mul_add,Int.mul_comm w,Int.mul_left_comm]
  have hk2:RNK (xl.length+(i+1)) z:=⟨z1.dg,z1.nz,z1.sg,zUI z1.dg z1.nz (by
   rw[hv,yG4];have a1:=zGX hx2.h.dg;have a2:=zGX (zGc hy2.h.dg (i+1));have a3:=qM hx2.h.dg;have a4:=qM (zGc hy2.h.dg (i+1));rw[List.length_take_of_le (by dsimp only;omega)] at a2;dsimp only at a1 a2 a3 a4;have b1:dv xl * dv (yl.take (i+1))≤dv xl * pw (i+1):=Int.mul_le_mul_of_nonneg_left (by omega) a3;have b2:(dv xl+1) * pw (i+1)≤pw xl.length * pw (i+1):=Int.mul_le_mul_of_nonneg_right (by omega) (by have:=zGg (i+1);omega);rw[Int.add_mul,Int.one_mul] at b2;have:=zGg (i+1);omega)⟩
  obtain⟨zn,znl,zcl,zl⟩:=z;dsimp only at hzn hv;subst hzn;simp only[RN.c,Sl.t] at hup hz;have hq:Hid _:=⟨And.intro hk2 hv⟩
  have hi3:Hid _:=⟨hi'⟩
  clear hS hm hg hol hI2 g1 g2 g3 u1 u2 u3 z1 z2 z3 z4 hv hk2 hi' hs2 hx2 hy2 hw2 lx ly ls
  (repeat' first|refine gA ?_|refine gT ?_ ?_<;>intro hv<;>try cases hv;done|fail)
  all_goals exact zB (i+1,⟨false,⟨_,_,_⟩⟩) (by have:=hi3.h;dsimp only;omega) ⟨by have:=hi3.h;dsimp only;omega,rfl,hq.h⟩ (by exact aTd)
 have hd:decide ((i:Int)<(yl.length:Int))=false:=decide_eq_false (by omega);obtain⟨z,hz,z1,z2,-,z4⟩:=zBX (!(xn==yn)) ⟨snl,scl,sl⟩ hsk.dg (by dsimp only;omega);have hR:Hid (RNK (k+m) z∧z.v=RN.v ⟨xn,xnl,xcl,xl⟩ * RN.v ⟨yn,ynl,ycl,yl⟩):=⟨z1.mono (by dsimp only;omega),by
  rw[List.take_of_length_le (by omega)] at hsv;rw[z4,hsv];unfold RN.v;cases xn<;>cases yn<;>simp [Int.neg_mul,Int.mul_neg]⟩
 obtain⟨zn,znl,zcl,zl⟩:=z;simp only[RN.c,Sl.t] at hz;clear hi hi' hsk hsv z1 z2 z4 hx hy lx ly ls hk
 (repeat' first|refine gA ?_|refine gT ?_ ?_<;>intro hv<;>try cases hv;done|fail)
 all_goals refine aM ?_<;>exact⟨⟨_,⟨_,_,_⟩⟩,⟨rfl,rfl⟩,hR.h⟩
def zWQ{x:RN}{k:Nat}(h:RNK k x)(hv:0≤x.v):x.neg=false∧dv x.d.l=x.v:=by
 cases hn:x.neg with
 |false=>exact⟨rfl,by unfold RN.v;rw[hn];rfl⟩
 |true =>
  have:=zOp h.dg h.nz (h.sg hn);unfold RN.v at hv;rw[hn] at hv;simp only[if_true] at hv;omega
def yAt(b:RN)(m:Nat)(hb:RNK m b)(hbn:b.neg=false)(hm:m<4294960000)(w:Int)(hw:0≤w∧w<10000):∃o z:RN,Om CC 153 [.t (.int .i64 w)] []=some (.val (.t (.agg o.c)),[]) ∧
  Om CC 152 [.t (.agg o.c),.t (.agg b.c)] []=some (.val (.t (.agg z.c)),[])∧RNK (m+5) z∧z.v=b.v * w:=by
 obtain⟨o,ho,o1,o2,o3⟩:=zDq w ⟨by omega,by omega⟩;obtain⟨z,hz,z1,z2⟩:=zOA o b 5 m o1 hb (by omega);refine⟨o,z,ho,hz,z1.mono (by omega),?_⟩;rw[z2,Int.mul_comm]
 congr 1
 unfold RN.v;rw[o3,decide_eq_false (by omega)];simp only[Bool.false_eq_true,if_false,o2];omega
def zSf(a b:RN)(n m:Nat)(ha:RNK n a)(hb:RNK m b)(han:a.neg=false)(hbn:b.neg=false)(hn:n<1000000)(hm:m<1000000):∃x:RN×RN,Om CC 194 [.t (.agg a.c),.t (.agg b.c)] []=some (.val (.tup [.t (.agg x.1.c),.t (.agg x.2.c)]),[])∧(RNK n x.1∧RNK n x.2∧x.1.neg=false∧b.v * x.1.v≤a.v):=by
 refine zH zZA rfl ?_;have hB:b.v=dv b.d.l:=by unfold RN.v;rw[hbn];rfl
 have hA:a.v=dv a.d.l:=by unfold RN.v;rw[han];rfl
 have hB0:0≤b.v:=by rw[hB];exact qM hb.dg
 have hml:=yAt b m hb hbn (by omega);have lb:=hb.ln;obtain⟨an,anl,acl,al⟩:=a;obtain⟨bn,bnl,bcl,bl⟩:=b;dsimp only at han hbn;subst han;subst hbn;have la:=ha.ln;dsimp only at la lb;generalize hBv:RN.v ⟨false,⟨bnl,bcl,bl⟩⟩=B at hB hB0 hml ⊢;rw[hA];clear hA hBv;have hml2:Hid _:=⟨hml⟩
 have hmk:decide (al.length<4294967296)=true:=decide_eq_true (by omega);have htl:=zGU al.length;clear hml;simp only[RN.c,Sl.t]
 (have F_:=c5 zF zG zN zK (c5 vX yB2 zF7 zE4 (c3 zSJ zLB (c2 zLa @zCH)));show W CC 0 83 (zA 194) _ ⟨[(0,_),(1,_)],[]⟩ _)
 repeat' (first|(with_reducible first|apply aA|apply jQ|apply zAS|apply zBu|apply zBt|apply kS|apply zAQ|apply zAw|apply zAL|apply kU|apply zBj)|(refine zBz (by kernel_rfl) ?_)|(with_reducible first|apply zAK|apply zAP|apply zAy|apply zAM|apply zAR|apply zBg|apply zCF|apply zCJ|apply zEg|apply zFo|apply zEc|apply zCC)|((with_reducible apply zRO);(focus kernel_rfl))|((with_reducible apply zQ1);(focus kernel_rfl);(focus kernel_rfl))|(with_reducible first|apply zIL|apply zIF)|((with_reducible apply zIY);(refine⟨by kernel_rfl,?_⟩))|((with_reducible refine zKZ (fun hg=>?_) (fun hg=>?_))<;>first|(cases hg;done)|skip)|((with_reducible refine zLk (fun hg=>?_) (fun hg=>?_))<;>first|(cases hg;done)|skip)|((with_reducible refine zNh (fun hg=>?_) (fun hg=>?_))<;>first|(cases hg;done)|skip)|((with_reducible refine zNn (fun hg=>?_) (fun hg=>?_))<;>first|(cases hg;done)|skip)|((with_reducible apply zRs);(focus (simp only[kR,Nat.le_refl,true_or,beq_true,beq_false,Bool.true_beq,Bool.false_beq,decide_true,decide_false,Int.ofNat_eq_natCast,List.length_map,List.getElem?_map,Option.map_some,wanted,exec1,zAr,qE,xBox,qO,wB,xLen,uT,wN,xH,qD,cellsOf,zJ,opds,qG,get,putT,ret,retO,lit,lit1,patch,put1,load,loadCells,cut,yB,mkAgg,trees,nth,lenOf,indexAddr,storeAt,upd,splice,wP,wU,zAm,uI,uG,kK,kJ,kO,vG,vI,uH,convert,kC,qU,kF,qV,zAc,qT,qW,qS,kE,kB,kA,vY,kI,kM,qZ,qX,kN,qY,kL,kG,uL,qI,Nat.beq,beq_self_eq_true,Nat.zero_add,Nat.add_zero,List.toList_toArray,List.map_cons,List.map_nil,List.length_cons,List.length_nil,List.take,List.drop,List.all_cons,List.all_nil,List.cons_append,List.nil_append,List.append_nil,Bool.and_true,Bool.true_and,Bool.not_true,Bool.not_false,Bool.and_self,if_true,if_false,reduceIte,Nat.reduceAdd,Nat.reduceLeDiff,Nat.reduceEqDiff,Sl.t,Val.c,Slot.c,Tpl.c,Fact.c,Bind.c,Node.c,Test.c,STest.c,Pat.c,intC,and_self,true_and,and_true,b00,b01,b02,b03,b04,b10,b11,b12,b13,b14,b20,b21,b22,b23,b24,b30,b31,b32,b33,b34,b40,b41,b42,b43,b44,qN,wQ,reach,wG,refs,wS,catMap,depth,sub,sub1,renL,ren,renO,mem,place,fresh,xB,plain,jX,back,zAV,zAv,wF,Way.id,Way.ver,wM,zAG,getN,view,yK,yV,zAe,yA,ne_eq,not_false_eq_true,cond_true,cond_false,jV,Option.getD_some,elems,yF,xN,yQ,xC,xC.go,zAj,vO,setN,List.replicate,Nat.mul_one,Nat.reduceMul,Nat.reduceLT,append,added,lens,uV,zAA,zAT,zCt,zBx,mfind,uQ,kP,UInt8.reduceToNat,zAg,Ab.bound,Int.toNat_natCast,bne_self_eq_false,true_or,Nat.reduceLT,one1,kD,deferred,qA,yG,jW,uS,jZ,vW,vB,wH,zAt,zAD,zBi,zBh,vC,Bool.or_true,Bool.or_false,Bool.true_or,Bool.false_or,F_, *];exact rfl)))|((with_reducible apply zRt);(focus (simp only[kR,Nat.le_refl,true_or,beq_true,beq_false,Bool.true_beq,Bool.false_beq,decide_true,decide_false,Int.ofNat_eq_natCast,List.length_map,List.getElem?_map,Option.map_some,wanted,exec1,zAr,qE,xBox,qO,wB,xLen,uT,wN,xH,qD,cellsOf,zJ,opds,qG,get,putT,ret,retO,lit,lit1,patch,put1,load,loadCells,cut,yB,mkAgg,trees,nth,lenOf,indexAddr,storeAt,upd,splice,wP,wU,zAm,uI,uG,kK,kJ,kO,vG,vI,uH,convert,kC,qU,kF,qV,zAc,qT,qW,qS,kE,kB,kA,vY,kI,kM,qZ,qX,kN,qY,kL,kG,uL,qI,Nat.beq,beq_self_eq_true,Nat.zero_add,Nat.add_zero,List.toList_toArray,List.map_cons,List.map_nil,List.length_cons,List.length_nil,List.take,List.drop,List.all_cons,List.all_nil,List.cons_append,List.nil_append,List.append_nil,Bool.and_true,Bool.true_and,Bool.not_true,Bool.not_false,Bool.and_self,if_true,if_false,reduceIte,Nat.reduceAdd,Nat.reduceLeDiff,Nat.reduceEqDiff,Sl.t,Val.c,Slot.c,Tpl.c,Fact.c,Bind.c,Node.c,Test.c,STest.c,Pat.c,intC,and_self,true_and,and_true,b00,b01,b02,b03,b04,b10,b11,b12,b13,b14,b20,b21,b22,b23,b24,b30,b31,b32,b33,b34,b40,b41,b42,b43,b44,qN,wQ,reach,wG,refs,wS,catMap,depth,sub,sub1,renL,ren,renO,mem,place,fresh,xB,plain,jX,back,zAV,zAv,wF,Way.id,Way.ver,wM,zAG,getN,view,yK,yV,zAe,yA,ne_eq,not_false_eq_true,cond_true,cond_false,jV,Option.getD_some,elems,yF,xN,yQ,xC,xC.go,zAj,vO,setN,List.replicate,Nat.mul_one,Nat.reduceMul,Nat.reduceLT,append,added,lens,uV,zDS,zEq,zEH,vD,foot,zFy,names,kT,zG7,zFn,mfind,uQ,kP,UInt8.reduceToNat,zAg,Ab.bound,Int.toNat_natCast,bne_self_eq_false,true_or,Nat.reduceLT,one1,kD,deferred,qA,yG,jW,uS,jZ,vW,vB,wH,zAt,zAD,zBi,zBh,vC,Bool.or_true,Bool.or_false,Bool.true_or,Bool.false_or,F_, *];exact rfl)))|((refine zGp (by(simp only[zJ,get,lit,lit1,Nat.beq, *];exact rfl)) (fun hv=>?_) (fun hv=>?_))<;>first|(cases hv;done)|skip))
 refine zW (α:=Nat×List Int×RN) (fun s=>⟨[(2,.box 0 0),(3,.box 1 0),(4,.box 2 0),(5,.box 3 0),(6,.box 4 0),(7,.box 5 0),(8,.hs 6 0),(9,.box 7 0),(10,.t (.int .i64 ((s.1:Int) - 1)))],
  [.box [.t (.bool false),.t (.sl anl acl (al.map intC))],.box [.t (.bool false),.t (.sl bnl bcl (bl.map intC))],.box [.t (.bool false),.t (.sl true true [])],.box [.t (.bool false),.t (.sl true true [])],.box [.t (.bool false),.t (.sl anl acl (al.map intC))],.box [.t (.bool false),.t (.sl bnl bcl (bl.map intC))],.arr 1 0 false (s.2.1.map intC),.box [.t (.bool s.2.2.neg),.t (s.2.2.d.t intC)]]⟩) (fun s=>s.1)
  (fun s=>QuI al B s.1 s.2.1 s.2.2.v∧RNK n s.2.2) (al.length,List.replicate al.length 0,⟨false,true,true,[]⟩) (by have hw0:IntKind.i64.wrap ((al.length:Int) - 1)=(al.length:Int) - 1:=(by rw[wrap64]<;>omega);(have X_:=@hw0;exact aTdX)) ⟨yIU _ _,⟨zA5,zIj,fun h=>(by cases h),Nat.zero_le _⟩⟩ ?_
 rintro⟨k,q,rn,rnl,rcl,rl⟩ ⟨hI,hrk⟩;dsimp only at hI hrk;have hr0:=zWQ hrk hI.2.2.2.1;dsimp only at hr0;obtain⟨rfl,hrv⟩:=hr0;simp only[Sl.t];clear hmk htl;cases k with
 |zero =>
  have hm:((0:Nat):Int) - 1=-1:=rfl;have hd:decide ((-1:Int) ≥ 0)=false:=rfl;obtain⟨e1,e2⟩:=zZi hI;have e3:=hI.2.1;have e4:=hrk.ln;dsimp only at e4;obtain⟨z1,hz1,p1,p2,p3,p4⟩:=zBX false ⟨false,false,q⟩ e1 (by dsimp only;omega);obtain⟨z2,hz2,q1,-,-,-⟩:=zBX false ⟨rnl,rcl,rl⟩ hrk.dg (by dsimp only;omega);have hR:Hid (RNK n z1∧RNK n z2∧z1.neg=false∧B * z1.v≤dv al):=⟨p1.mono (by dsimp only;omega),q1.mono (by dsimp only;omega),p3 rfl,by rw[p4];exact e2⟩
  obtain⟨z1n,z1l⟩:=z1;obtain⟨z2n,z2l⟩:=z2;simp only[RN.c,Sl.t] at hz1 hz2;simp only[hm];clear hI hrk hrv e1 e2 e3 e4 p1 p2 p3 p4 q1 ha hb hml2 hB0 la lb hm hB hn
  (repeat' first|refine gA ?_|refine gT ?_ ?_<;>intro hv<;>try cases hv;done|fail)
  all_goals refine aM ?_<;>exact⟨(⟨_,_⟩,⟨_,_⟩),⟨rfl,rfl⟩,hR.h⟩
 |succ k =>
  have hk:k<al.length:=by have:=hI.1;omega
  have hm:((k+1:Nat):Int) - 1=(k:Int):=by omega
  have hd:decide ((k:Int) ≥ 0)=true:=decide_eq_true (by omega);have hk0:(0:Int)≤(k:Int):=by omega
  have hak:al[k]?=some al[k]:=List.getElem?_eq_getElem hk;have hx:=ha.dg al[k] (List.getElem_mem hk)
  try dsimp only at hx
  generalize al[k]=x at hak hx;have hql:=hI.2.1;have hkq:(k:Int)<(q.length:Int):=by omega
  have hqk:nth (q.map intC) k=some [.int .i64 (q[k]'(by omega))]:=by rw[yR,List.getElem?_map,List.getElem?_eq_getElem (by omega)];rfl
  generalize q[k]'(by omega)=qk at hqk;have lr:=hrk.ln
  try dsimp only at lr
  obtain⟨r1,hr1,p1,p2,p3,p4⟩:=zBX false ⟨false,false,x::rl⟩ (zER hx hrk.dg) (by simp only[List.length_cons];omega);have hsm:decide (0+(1+rl.length)<4294967296)=true:=decide_eq_true (by omega);have hsm2:decide (1+rl.length<4294967296)=true:=decide_eq_true (by omega);have hlens:((rl.map intC).all fun e=>e.length.beq 1)=true:=vF intC 1 (fun a=>rfl) rl;have hr1v:r1.v=x+10000 * RN.v ⟨false,⟨rnl,rcl,rl⟩⟩:=by rw[p4,← hrv];rfl
  have hI2:Hid _:=⟨hI⟩
  have hp1:Hid _:=⟨p1.mono (show (x::rl).length≤n+1 by simp only[List.length_cons];omega)⟩
  have hr10:Hid (0≤r1.v):=⟨by rw[hr1v];have:=hI.2.2.2.1;omega⟩
  have hr1v2:Hid _:=⟨hr1v⟩
  have hx2:Hid _:=⟨hx⟩
  obtain⟨r1n,r1l⟩:=r1;have hr1n:=p3 rfl
  try dsimp only at hr1n
  subst hr1n;have hs:Hid _:=⟨And.intro ha (And.intro hb (And.intro hB0 (And.intro hn (And.intro hm (And.intro hk (And.intro hql hak))))))⟩
  simp only[RN.c,Sl.t,List.map_cons] at hr1;rw[show intC x=[.int .i64 x] from rfl] at hr1;simp only[hm];clear hI hrk hrv p1 p2 p3 p4 lr hr1v hx ha hb hB0 hm hk hB hql
  (repeat' first|refine gA ?_|refine gT ?_ ?_<;>intro hv<;>try cases hv;done|fail)
  refine zW (α:=Int×Int) (fun s=>⟨[(2,.box 0 0),(3,.box 1 0),(4,.box 2 0),(5,.box 3 0),(6,.box 4 0),(7,.box 5 0),(8,.hs 6 0),(9,.box 7 0),(10,.t (.int .i64 (k:Int))),(11,.t (.int .i64 s.1)),(12,.t (.int .i64 s.2))],
   [.box [.t (.bool false),.t (.sl anl acl (al.map intC))],.box [.t (.bool false),.t (.sl bnl bcl (bl.map intC))],.box [.t (.bool false),.t (.sl true true [])],.box [.t (.bool false),.t (.sl true true [])],.box [.t (.bool false),.t (.sl anl acl (al.map intC))],.box [.t (.bool false),.t (.sl bnl bcl (bl.map intC))],.arr 1 0 false (q.map intC),.box [.t (.bool false),.t (r1l.t intC)]]⟩) (fun s=>(s.2 - s.1).toNat)
   (fun s=>0≤s.1∧s.1≤s.2∧s.2≤9999∧B * s.1≤RN.v ⟨false,r1l⟩) (0,9999) (by exact aTd) ⟨Int.le_refl _,by decide,by decide,by rw[Int.mul_zero];exact hr10.h⟩ ?_
  rintro⟨low,high⟩ ⟨h0,h1,h2,h3⟩
  try dsimp only at h0 h1 h2 h3
  obtain⟨ha,hb,hB0,hn,hm2,hk,hql,hak2⟩:=hs.h
  by_cases hlt:low<high
  ·have hdl:decide (low<high)=true:=decide_eq_true hlt;obtain⟨m1,m2⟩:=zYE h0 hlt h2;have w1:IntKind.i64.wrap (low+high)=low+high:=by rw[wrap64]<;>omega
   have w2:IntKind.i64.wrap (low+high+1)=low+high+1:=by rw[wrap64]<;>omega
   have w3:IntKind.i64.wrap ((low+high+1).tdiv 2)=(low+high+1).tdiv 2:=by rw[wrap64]<;>omega
   have hn2:(2:Int)≠0:=by decide
   have w4:IntKind.i64.wrap ((low+high+1).tdiv 2 - 1)=(low+high+1).tdiv 2 - 1:=by rw[wrap64]<;>omega
   obtain⟨o,z,ho,hz,z1,z2⟩:=hml2.h ((low+high+1).tdiv 2) ⟨by omega,by omega⟩;obtain⟨c,hc,c1⟩:=zJu z ⟨false,r1l⟩ (n+m+6) (z1.mono (by omega)) (hp1.h.mono (by omega)) (by omega);have hle:Hid (c≤0→B * (low+high+1).tdiv 2≤RN.v ⟨false,r1l⟩):=⟨fun h=>by rw[← z2];exact c1 h⟩
   have hh:Hid _:=⟨And.intro h0 (And.intro h1 (And.intro h2 (And.intro h3 (And.intro m1 m2))))⟩
   obtain⟨on,ol⟩:=o;obtain⟨zn,zl⟩:=z;simp only[RN.c,Sl.t] at ho hz hc;clear ha hb hB0 hn hm2 hk hql hak2 h0 h1 h2 h3 m1 m2 z1 z2 c1 hlt hr1
   by_cases hc0:c≤0
   ·have hdc:decide (c≤0)=true:=decide_eq_true hc0;have hq:Hid _:=⟨hle.h hc0⟩
    clear hc0 hle
    (repeat' first|refine gA ?_|refine gT ?_ ?_<;>intro hv<;>try cases hv;done|fail)
    all_goals exact zB ((low+high+1).tdiv 2,high) (by obtain⟨_,_,_,_,_,_⟩:=hh.h;dsimp only;omega) ⟨by obtain⟨_,_,_,_,_,_⟩:=hh.h;dsimp only;omega,by obtain⟨_,_,_,_,_,_⟩:=hh.h;dsimp only;omega,by obtain⟨_,_,_,_,_,_⟩:=hh.h;dsimp only;omega,hq.h⟩ (by exact aTd)
   have hdc:decide (c≤0)=false:=decide_eq_false hc0;clear hc0 hle
   (repeat' first|refine gA ?_|refine gT ?_ ?_<;>intro hv<;>try cases hv;done|fail)
   all_goals exact zB (low,(low+high+1).tdiv 2 - 1) (by obtain⟨_,_,_,_,_,_⟩:=hh.h;dsimp only;omega) ⟨hh.h.1,by obtain⟨_,_,_,_,_,_⟩:=hh.h;dsimp only;omega,by obtain⟨_,_,_,_,_,_⟩:=hh.h;dsimp only;omega,hh.h.2.2.2.1⟩ (by exact aTd)
  have hdl:decide (low<high)=false:=decide_eq_false hlt;obtain⟨o,z,ho,hz,z1,z2⟩:=hml2.h low ⟨by omega,by omega⟩;obtain⟨u,hu,u1,u2⟩:=zNJ ⟨false,r1l⟩ z (n+m+6) (hp1.h.mono (by omega)) (z1.mono (by omega)) (by omega);have hst:=yIv hI2.h hak2 ⟨h0,by omega⟩ (by rw[← hr1v2.h];exact h3);have huv:u.v=x+10000 * RN.v ⟨false,⟨rnl,rcl,rl⟩⟩ - B * low:=by rw[u2,z2,hr1v2.h]
  rw[← huv] at hst;have huu:=zWQ u1 hst.2.2.2.1;have hul:=zYo hst hB0 ha.dg;have hpp:=zGg (al.length - k);have hu3:RNK n u:=(zZ3 u1 hul (by have:=hst.2.2.2.1;omega)).mono (by omega);obtain⟨un,ul⟩:=u;have hun:=huu.1
  try dsimp only at hun
  subst hun;have hq:Hid _:=⟨And.intro hst hu3⟩
  have wk:IntKind.i64.wrap ((k:Int) - 1)=(k:Int) - 1:=by rw[wrap64]<;>omega
  obtain⟨on,ol⟩:=o;obtain⟨zn,zl⟩:=z;simp only[RN.c,Sl.t] at ho hz hu;clear ha hb hB0 hn hm2 hk hql hak2 h0 h1 h2 h3 z1 z2 u1 u2 hst huv huu hul hpp hu3 hlt hr1
  (have x0_:=@qR.eq_1;(repeat' first|refine gA ?_|refine gT ?_ ?_<;>intro hv<;>try cases hv;done|fail);all_goals clear x0_)
  all_goals exact zB (k,q.set k low,(⟨false,⟨_,_,_⟩⟩:RN)) (Nat.lt_succ_self k) hq.h (by(have X_:=c2 @kH @mapS;exact aTdX))
def zIO:R64 0:=⟨by decide,by decide⟩
def xa7:=c5 zF zG zN zK (c3 vX zRT (c2 zE4 zLB))
def zVo(x:RN)(n:Nat)(hx:RNK n x)(hn:n<1000000):∃r:Int×Int,Om CC 98 [.t (.agg x.c)] []=some (.val (.tup [.t (.int .i64 r.1),.t (.int .i64 r.2)]),[])∧(R64 r.1):=by
 refine zH yCH rfl ?_;obtain⟨lo,hlo,l1,-,-⟩:=zDq (-9223372036854775808) ⟨by decide,by decide⟩;obtain⟨hi,hhi,g1,-,-⟩:=zDq 9223372036854775807 ⟨by decide,by decide⟩;obtain⟨c1,hc1,-⟩:=zJu x lo (n+5) (hx.mono (by omega)) (l1.mono (by omega)) (by omega);obtain⟨c2,hc2,-⟩:=zJu x hi (n+5) (hx.mono (by omega)) (g1.mono (by omega)) (by omega);have lx:=hx.ln;have hlx:x.d.l.length<1000000:=by omega
 obtain⟨xn,xnl,xcl,xl⟩:=x;obtain⟨lon,lol⟩:=lo;obtain⟨hin,hil⟩:=hi;simp only[RN.c,Sl.t] at hlo hhi hc1 hc2 ⊢;dsimp only at hlx;have hw0:IntKind.i64.wrap ((xl.length:Int) - 1)=(xl.length:Int) - 1:=by rw[wrap64]<;>omega
 have hx2:Hid _:=⟨hx⟩
 have hl2:Hid _:=⟨hlx⟩
 clear hx l1 g1 lx hlx
 by_cases h1:decide (c1<0)=true
 ·have:=h1;clear hc2
  (have F_:=xa7;show W CC 0 47 (zA 98) _ ⟨[(0,_)],[]⟩ _)
  (repeat' first|refine gA ?_|refine gT ?_ ?_<;>intro hv<;>try cases hv;done|fail)
  all_goals refine aM ?_<;>exact⟨(_,_),⟨rfl,rfl⟩,zIO⟩
 have h1':decide (c1<0)=false:=by simpa using h1
 clear h1
 by_cases h2:decide (c2 > 0)=true
 ·have:=h2
  (have F_:=xa7;show W CC 0 47 (zA 98) _ ⟨[(0,_)],[]⟩ _)
  (repeat' first|refine gA ?_|refine gT ?_ ?_<;>intro hv<;>try cases hv;done|fail)
  all_goals refine aM ?_<;>exact⟨(_,_),⟨rfl,rfl⟩,zIO⟩
 have h2':decide (c2 > 0)=false:=by simpa using h2
 clear h2
 (have F_:=xa7;show W CC 0 47 (zA 98) _ ⟨[(0,_)],[]⟩ _)
 (repeat' first|refine gA ?_|refine gT ?_ ?_<;>intro hv<;>try cases hv;done|fail)
 refine zW (α:=Nat×Int) (fun s=>⟨[(1,.box 0 0),(6,.t (.int .i64 s.2)),(7,.t (.int .i64 ((s.1:Int) - 1)))],[.box [.t (.bool xn),.t (.sl xnl xcl (xl.map intC))]]⟩) (fun s=>s.1)
  (fun s=>s.1≤xl.length∧R64 s.2) (xl.length,0) (by(have X_:=@hw0;exact aTdX)) ⟨Nat.le_refl _,zIO⟩ ?_
 rintro⟨k,n⟩ ⟨hk,hR⟩;dsimp only at hk hR;clear hlo hhi hc1 hc2 h1' h2' hw0;cases k with
 |zero =>
  have hm:((0:Nat):Int) - 1=-1:=rfl;have hd:decide ((-1:Int) ≥ 0)=false:=rfl;have hR2:Hid _:=⟨hR⟩
  simp only[hm];clear hR
  (repeat' first|refine gA ?_|refine gT ?_ ?_<;>intro hv<;>try cases hv;done|fail)
  all_goals refine aM ?_<;>exact⟨(_,_),⟨rfl,rfl⟩,hR2.h⟩
 |succ k =>
  have hm:((k+1:Nat):Int) - 1=(k:Int):=by omega
  have hd:decide ((k:Int) ≥ 0)=true:=decide_eq_true (by omega);have hak:xl[k]?=some xl[k]:=List.getElem?_eq_getElem hk;have hxd:=hx2.h.dg xl[k] (List.getElem_mem hk);generalize xl[k]=y at hak hxd;have wk:IntKind.i64.wrap ((k:Int) - 1)=(k:Int) - 1:=by have:=hl2.h;rw[wrap64]<;>omega
  have hk2:Hid _:=⟨hk⟩
  have hy2:Hid _:=⟨hxd⟩
  simp only[hm];clear hR hxd hk;cases xn with
  |true =>
   (repeat' first|refine gA ?_|refine gT ?_ ?_<;>intro hv<;>try cases hv;done|fail)
   all_goals exact zB (k,_) (Nat.lt_succ_self k) ⟨by have:=hk2.h;dsimp only;omega,zCp _⟩ (by exact aTd)
  |false =>
   (repeat' first|refine gA ?_|refine gT ?_ ?_<;>intro hv<;>try cases hv;done|fail)
   all_goals exact zB (k,_) (Nat.lt_succ_self k) ⟨by have:=hk2.h;dsimp only;omega,zCp _⟩ (by exact aTd)
def xa8:=c5 zG zN zE zD zOG
def zQO(s:List Nat):∃x:Bool,Om CC 156 [.t (.str s)] []=some (.val (.t (.bool x)),[])∧(True):=by
 refine zH zYq rfl ?_;have ld:Hid _:=⟨fun(i c:Nat) (h:s[i]?=some c)=>(xL h:index Tryz.prog 9 (.t (.str s)) (i:Int)=some (.t (.int .u8 (c:Int))))⟩
 by_cases h1:(s.length:Int)<1
 ·have d1:decide ((s.length:Int)<1)=true:=decide_eq_true h1;clear h1
  (have F_:=xa8;show W CC 0 47 (zA 156) _ ⟨[(0,_)],[]⟩ _)
  (repeat' first|refine gA ?_|refine gT ?_ ?_<;>intro hv<;>try cases hv;done|fail)
  all_goals refine aM ?_<;>exact⟨_,⟨rfl,rfl⟩,trivial⟩
 have d1:decide ((s.length:Int)<1)=false:=decide_eq_false h1
 by_cases h2:(s.length:Int) > 12
 ·have d2:decide ((s.length:Int) > 12)=true:=decide_eq_true h2;clear h1 h2
  (have F_:=xa8;show W CC 0 47 (zA 156) _ ⟨[(0,_)],[]⟩ _)
  (repeat' first|refine gA ?_|refine gT ?_ ?_<;>intro hv<;>try cases hv;done|fail)
  all_goals refine aM ?_<;>exact⟨_,⟨rfl,rfl⟩,trivial⟩
 have d2:decide ((s.length:Int) > 12)=false:=decide_eq_false h2;have h22:Hid _:=⟨h2⟩
 clear h1 h2
 (have F_:=xa8;show W CC 0 47 (zA 156) _ ⟨[(0,_)],[]⟩ _)
 (repeat' first|refine gA ?_|refine gT ?_ ?_<;>intro hv<;>try cases hv;done|fail)
 refine zW (α:=Nat) (fun i=>⟨[(0,.t (.str s)),(3,.t (.int .i64 i))],[]⟩) (fun i=>s.length - i) (fun i=>i≤s.length) 0 (by kernel_rfl) (Nat.zero_le _) ?_;intro i hi
 by_cases hi':i<s.length
 ·have hd:decide ((i:Int)<(s.length:Int))=true:=by simpa using hi'
  have hx:=ld.h i s[i] (List.getElem?_eq_getElem hi');have hw:=wI64 i (by have:=h22.h;omega);generalize s[i]=c at hx;have hi2:Hid _:=⟨hi'⟩
  clear hi hi'
  (repeat' first|refine gA ?_|refine gT ?_ ?_<;>intro hv<;>try cases hv;done|fail)
  all_goals first
   |exact zB (i+1) (by have:=hi2.h;omega) (by have:=hi2.h;omega) (by kernel_rfl)
   |((refine aM ?_);exact⟨_,⟨rfl,rfl⟩,trivial⟩)
 have hd:decide ((i:Int)<(s.length:Int))=false:=by simpa using hi'
 clear hi hi'
 (repeat' first|refine gA ?_|refine gT ?_ ?_<;>intro hv<;>try cases hv;done|fail)
 all_goals refine aM ?_<;>exact⟨_,⟨rfl,rfl⟩,trivial⟩
def zAN(k n:Int)(s:List Nat)(hs:s.length<1000000):∃x:Bool,Om CC 99 [.t (.agg [.int .u8 k,.int .i64 n,.str s])] []=some (.val (.t (.bool x)),[])∧(True):=by
 refine zH yCR rfl ?_;have ld:Hid _:=⟨fun(i c:Nat) (h:s[i]?=some c)=>(xL h:index Tryz.prog 9 (.t (.str s)) (i:Int)=some (.t (.int .u8 (c:Int))))⟩
 obtain⟨nm,hnm,-⟩:=zQO s;have hs2:Hid _:=⟨hs⟩
 clear hs
 (have F_:=c5 zF zG zE zD (c3 zC yHo yCu);show W CC 0 77 (zA 99) _ ⟨[(0,_)],[]⟩ _)
 (repeat' first|refine gA ?_|refine gT ?_ ?_<;>intro hv<;>try cases hv;done|fail)
 all_goals first
  |((refine aM ?_);exact⟨_,⟨rfl,rfl⟩,trivial⟩)
  |skip
 refine zW (α:=Nat) (fun i=>⟨[(1,.box 0 0),(3,.t (.int .i64 i))],[.box [.t (.int .u8 k),.t (.int .i64 n),.t (.str s)]]⟩) (fun i=>s.length - i) (fun i=>i≤s.length) 0 (by exact aTd) (Nat.zero_le _) ?_;intro i hi
 by_cases hi':i<s.length
 ·have hd:decide ((i:Int)<(s.length:Int))=true:=by simpa using hi'
  have hx:=ld.h i s[i] (List.getElem?_eq_getElem hi');have hw:=wI64 i (by have:=hs2.h;omega);generalize s[i]=c at hx;have hi2:Hid _:=⟨hi'⟩
  clear hi hi'
  (repeat' first|refine gA ?_|refine gT ?_ ?_<;>intro hv<;>try cases hv;done|fail)
  all_goals first
   |exact zB (i+1) (by have:=hi2.h;omega) (by have:=hi2.h;omega) (by exact aTd)
   |((refine aM ?_);exact⟨_,⟨rfl,rfl⟩,trivial⟩)
 have hd:decide ((i:Int)<(s.length:Int))=false:=by simpa using hi'
 clear hi hi'
 (repeat' first|refine gA ?_|refine gT ?_ ?_<;>intro hv<;>try cases hv;done|fail)
 all_goals refine aM ?_<;>exact⟨_,⟨rfl,rfl⟩,trivial⟩
def zKh(b:Bool):∃x:Val,Om CC 96 [.t (.bool b)] []=some (.val (.t (.agg [.int .u8 x.k,.int .i64 x.n,.str x.s])),[])∧(R64 x.n∧x.s=[]):=by
 refine zH yFU rfl ?_
 (have F_:=c5 zF zN zE zD (c2 zC yHR);show W CC 0 8 (zA 96) _ ⟨[(0,_)],[]⟩ _)
 (repeat' first|refine gA ?_|refine gT ?_ ?_<;>intro hv<;>try cases hv;done|fail)
 all_goals refine aM ?_<;>exact⟨⟨_,_,_⟩,⟨rfl,rfl⟩,⟨by show _≤_;decide,by show _<_;decide⟩,rfl⟩
def zQD(s:List Nat)(hs:s.length<1000000):∃r:List Nat,Om CC 97 [.t (.str s)] []=some (.val (.t (.str r)),[])∧(r.length≤s.length):=by
 refine zH yGj rfl ?_;have ld:Hid _:=⟨fun(i c:Nat) (h:s[i]?=some c)=>(xL h:index Tryz.prog 9 (.t (.str s)) (i:Int)=some (.t (.int .u8 (c:Int))))⟩
 have hs2:Hid _:=⟨hs⟩
 clear hs
 (have F_:=c3 zG zE (c2 zD yI2);show W CC 0 26 (zA 97) _ ⟨[(0,_)],[]⟩ _)
 (repeat' first|refine gA ?_|refine gT ?_ ?_<;>intro hv<;>try cases hv;done|fail)
 refine zW (α:=List Nat×Nat) (fun a=>⟨[(0,.t (.str s)),(3,.t (.str a.1)),(4,.t (.int .i64 a.2))],[]⟩) (fun a=>s.length+1 - a.2) (fun a=>a.1.length+1≤a.2∧(a.2=1∨a.2≤s.length)) ([],1) (by kernel_rfl) ⟨by decide,.inl rfl⟩ ?_;rintro⟨o,i⟩ ⟨ho,hi⟩;dsimp only at ho hi
 by_cases hi':i+1<s.length
 ·have hd:decide (((i+1:Nat):Int)<(s.length:Int))=true:=by simp;omega
  have hx:=ld.h i s[i] (List.getElem?_eq_getElem (by omega));have hw:=wI64 i (by have:=hs2.h;omega);have hw2:IntKind.i64.wrap (((i+1:Nat):Int)+1)=((i+1+1:Nat):Int):=by have:=hs2.h;rw[wrap64]<;>omega
  have hsl:∀g,slice Tryz.prog g 9 (.t (.str s)) (some (i:Int)) (some ((i+1:Nat):Int)) none=some (.t (.str ((s.take (i+1)).drop i))):=fun g=>vH (by omega) (by omega)
  have hsl2:∀g,slice Tryz.prog g 9 (.t (.str s)) (some ((i+1:Nat):Int)) (some ((i+1+1:Nat):Int)) none=some (.t (.str ((s.take (i+1+1)).drop (i+1)))):=fun g=>vH (by omega) (by omega)
  have l1:((s.take (i+1)).drop i).length=1:=by simp;omega
  have l2:((s.take (i+1+1)).drop (i+1)).length=1:=by simp;omega
  generalize (s.take (i+1)).drop i=p1 at hsl l1;generalize (s.take (i+1+1)).drop (i+1)=p2 at hsl2 l2;have sa1:binop Tryz.prog .add 9 (.t (.str o)) (.t (.str p1))=some (.t (.str (o++p1))):=yO (by have:=hs2.h;omega);have sa2:binop Tryz.prog .add 9 (.t (.str o)) (.t (.str p2))=some (.t (.str (o++p2))):=yO (by have:=hs2.h;omega);have ho1:Hid ((o++p1).length≤i∧(o++p2).length≤i):=⟨by simp only[List.length_append];omega⟩
  generalize s[i]=c at hx;have hi2:Hid _:=⟨hi'⟩
  clear hi hi' ho l1 l2
  (repeat' first|refine gA ?_|refine gT ?_ ?_<;>intro hv<;>try cases hv;done|fail)
  all_goals first
   |exact zB (o++p1,i+1) (by have:=hi2.h;dsimp only;omega) ⟨by have:=ho1.h;dsimp only;omega,.inr (by have:=hi2.h;dsimp only;omega)⟩ (by exact aTd)
   |exact zB (o++p2,i+1+1) (by have:=hi2.h;dsimp only;omega) ⟨by have:=ho1.h;dsimp only;omega,.inr (by have:=hi2.h;dsimp only;omega)⟩ (by exact aTd)
 have hd:decide (((i+1:Nat):Int)<(s.length:Int))=false:=by simp;omega
 have hw:=wI64 i (by have:=hs2.h;omega);have hR:Hid (o.length≤s.length):=⟨by omega⟩
 clear hi hi' ho
 (repeat' first|refine gA ?_|refine gT ?_ ?_<;>intro hv<;>try cases hv;done|fail)
 all_goals refine aM ?_<;>exact⟨_,⟨rfl,rfl⟩,hR.h⟩
def zI4(x:RN)(least:Nat)(hx:RNK 5 x)(hv:dv x.d.l<10000000000000000000)(hl:least≤5):∃r:List Nat,Om CC 157 [.t (.agg x.c),.t (.int .i64 (least:Int))] []=some (.val (.t (.str r)),[])∧(least≤r.length∧r.length≤20):=by
 refine zH zY8 rfl ?_;obtain⟨xn,xnl,xcl,xl⟩:=x;obtain⟨ten,hten,t1,t2,t3⟩:=zDq 10 ⟨by decide,by decide⟩;have tn:ten.neg=false:=by rw[t3];rfl
 have tv:ten.v=10:=by unfold RN.v;rw[tn];simp only[Bool.false_eq_true,if_false,t2];rfl
 simp only[RN.c,Sl.t] at hten ⊢
 (have F_:=c5 zF zG zN zE (c5 zD zK zKF vX (c3 yBA zE4 yCV));show W CC 0 46 (zA 157) _ ⟨[(0,_),(1,_)],[]⟩ _)
 (repeat' first|refine gA ?_|refine gT ?_ ?_<;>intro hv<;>try cases hv;done|fail)
 refine zW (α:=List Nat×RN×Nat) (fun a=>⟨[(1,.t (.int .i64 least)),(5,.t (.str a.1)),(6,.box 0 0)],[.box [.t (.bool false),.t (a.2.1.d.t intC)]]⟩) (fun a=>a.2.2+(least - a.1.length))
  (fun a=>a.2.1.neg=false∧RNK 5 a.2.1∧dv a.2.1.d.l<((10 ^ a.2.2:Nat):Int)∧(a.1.length+a.2.2≤20∨a.2.1.d.l=[]∧a.2.2=0∧a.1.length≤least)) ([],⟨false,xnl,xcl,xl⟩,19) (by kernel_rfl) ⟨rfl,⟨hx.dg,hx.nz,fun h=>(by cases h),hx.ln⟩,hv,.inl (by simp)⟩ ?_
 rintro⟨o,⟨ln,lnl,lcl,ll⟩,j⟩ ⟨hn,hk,hb,hc⟩;dsimp only at hn hk hb hc;subst hn;simp only[Sl.t];clear hx hv;have htl:=t1
 by_cases hgo:ll≠[]∨o.length<least
 ·obtain⟨⟨q,r⟩,hq,q1,r1,q2,q3⟩:=zSf ⟨false,⟨lnl,lcl,ll⟩⟩ ten 5 5 hk t1 rfl tn (by decide) (by decide);dsimp only at q1 r1 q2 q3;have hqv:10 * dv q.d.l≤dv ll:=by
   rw[tv] at q3;unfold RN.v at q3;rw[q2] at q3;exact q3
  have hstep:Hid (∃j',RNK 5 q∧dv q.d.l<((10 ^ j':Nat):Int)∧j'+(least - (o.length+1))<j+(least - o.length)∧(o.length+1+j'≤20∨q.d.l=[]∧j'=0∧o.length+1≤least)):=⟨by
   have hq0:=qM q1.dg
   by_cases hll:ll=[]
   ·have hz:dv q.d.l=0:=by rw[hll] at hqv;simp only[dv] at hqv;omega
    have hol:o.length<least:=by rcases hgo with h|h;exact absurd hll h;exact h
    exact⟨0,q1,by rw[hz];decide,by omega,.inr ⟨zZO q1.dg q1.nz hz,rfl,by omega⟩⟩
   have h1:=zOp hk.dg hk.nz hll;dsimp only at h1;have hj:1≤j:=by
    refine Nat.one_le_iff_ne_zero.2 fun h=>?_
    rw[h,Nat.pow_zero] at hb;omega
   obtain⟨j,rfl⟩:∃i,j=i+1:=⟨j - 1,by omega⟩;refine⟨j,q1,?_,by omega,.inl ?_⟩
   ·rw[Nat.pow_succ,Int.natCast_mul] at hb;omega
   rcases hc with h|h
   ·omega
   exact absurd h.1 hll⟩
  have hcond:decide ((ll.length:Int) > 0)=true∨decide ((ll.length:Int) > 0)=false∧decide ((o.length:Int)<(least:Int))=true:=by
   by_cases hll:ll=[]
   ·have hol:o.length<least:=by rcases hgo with h|h;exact absurd hll h;exact h
    exact .inr ⟨by rw[hll];rfl,decide_eq_true (by omega)⟩
   exact .inl (decide_eq_true (by have:=List.length_pos_iff.2 hll;omega))
  have hol:o.length≤20:=by omega
  have sa:∀a:Nat,binop Tryz.prog .add 9 (.t (.str [a])) (.t (.str o))=some (.t (.str (a::o))):=fun a=>yO (by simp only[List.length_singleton];omega)
  obtain⟨tnn,tll⟩:=ten;obtain⟨qn,qnl,qcl,ql⟩:=q;obtain⟨rn,rnl,rcl,rl⟩:=r;dsimp only at q2;subst q2;simp only[RN.c,Sl.t] at hq hten;clear hk hb hc hgo q1 r1 q3 hqv t1 t2 t3 tn tv htl hol hl;cases rl with
  |nil =>
   rcases hcond with hc1|⟨hc1,hc2⟩
   ·(have x0_:=@vN.eq_1;have x1_:=@vN.eq_2;have x2_:=@vN.eq_3;(repeat' first|refine gA ?_|refine gT ?_ ?_<;>intro hv<;>try cases hv;done|fail);all_goals clear x0_ x1_ x2_)
    all_goals (obtain⟨j',a1,a2,a3,a4⟩:=hstep.h;exact zB (_::o,⟨false,⟨qnl,qcl,ql⟩⟩,j') a3 ⟨rfl,a1,a2,a4⟩ (by exact aTd))
   (have x0_:=@vN.eq_1;have x1_:=@vN.eq_2;have x2_:=@vN.eq_3;(repeat' first|refine gA ?_|refine gT ?_ ?_<;>intro hv<;>try cases hv;done|fail);all_goals clear x0_ x1_ x2_)
   all_goals (obtain⟨j',a1,a2,a3,a4⟩:=hstep.h;exact zB (_::o,⟨false,⟨qnl,qcl,ql⟩⟩,j') a3 ⟨rfl,a1,a2,a4⟩ (by exact aTd))
  |cons y rl =>
   have hd:decide (((y::rl).length:Int) > 0)=true:=decide_eq_true (by simp only[List.length_cons];omega);have hy:idx ((y::rl).map intC) 0=some [.int .i64 y]:=rfl;generalize y::rl=rl at *;rcases hcond with hc1|⟨hc1,hc2⟩
   ·(have x0_:=@vN.eq_1;have x1_:=@vN.eq_2;have x2_:=@vN.eq_3;(repeat' first|refine gA ?_|refine gT ?_ ?_<;>intro hv<;>try cases hv;done|fail);all_goals clear x0_ x1_ x2_)
    all_goals (obtain⟨j',a1,a2,a3,a4⟩:=hstep.h;exact zB (_::o,⟨false,⟨qnl,qcl,ql⟩⟩,j') a3 ⟨rfl,a1,a2,a4⟩ (by exact aTd))
   (have x0_:=@vN.eq_1;have x1_:=@vN.eq_2;have x2_:=@vN.eq_3;(repeat' first|refine gA ?_|refine gT ?_ ?_<;>intro hv<;>try cases hv;done|fail);all_goals clear x0_ x1_ x2_)
   all_goals (obtain⟨j',a1,a2,a3,a4⟩:=hstep.h;exact zB (_::o,⟨false,⟨qnl,qcl,ql⟩⟩,j') a3 ⟨rfl,a1,a2,a4⟩ (by exact aTd))
 have hl1:ll=[]:=Classical.byContradiction fun h=>hgo (.inl h)
 have hl2:¬ o.length<least:=fun h=>hgo (.inr h)
 have hd:decide ((o.length:Int)<(least:Int))=false:=decide_eq_false (by omega);have hR:Hid (least≤o.length∧o.length≤20):=⟨by omega⟩
 subst hl1;clear hk hb hc hgo hl2 hl hten
 (repeat' first|refine gA ?_|refine gT ?_ ?_<;>intro hv<;>try cases hv;done|fail)
 all_goals refine aM ?_<;>exact⟨_,⟨rfl,rfl⟩,hR.h⟩
end Go.Ab
