/- Lemmas. -/
import Derived.Test.YtdbfacakphncfaaGreatDoorG20
import Derived.Test.YtdbfacakphncfaaGreatDoorG16
set_option maxRecDepth 1000000
set_option maxHeartbeats 40000000
set_option linter.all false
namespace Go.Ab
open Go.Proofs
attribute [local irreducible] W RW RR
def zDU(a:Ans):Bool:=(a.e==0)&&((a.v.k==4)&&(a.v.n==1))
def zTM(a:Ans):Om CC 23 [.t (.agg [.int .u8 a.v.k,.int .i64 a.v.n,.str a.v.s]),.t (.int .i64 a.e)] []=some (.val (.t (.bool (zDU a))),[]):=by
 refine zV yF8 rfl ?_
 (have F_:=c5 zF zE zD zC (c2 zQ yHp);show W CC 0 17 (zA 23) _ ⟨[(0,_),(1,_)],[]⟩ _)
 unfold zDU;cases h1:a.e==0<;>cases h2:a.v.k==4<;>cases h3:a.v.n==1
 all_goals (repeat' first|refine gA ?_|refine gT ?_ ?_<;>intro hv<;>try cases hv;done|fail)<;>refine aO ?_ ?_<;>(rfl)
def xaY:=c5 zF zE zD zC (c3 zQ zFj zXm)
def zGA(a:Ans):∃x:Ans,Om CC 86 [.t (.agg [.int .u8 a.v.k,.int .i64 a.v.n,.str a.v.s,.int .i64 a.e])] []=some (.val (.t (.agg [.int .u8 x.v.k,.int .i64 x.v.n,.str x.v.s,.int .i64 x.e])),[])∧(AOK a→AOK x):=by
 refine zH zUR rfl ?_
 (have F_:=xaY;show W CC 0 20 (zA 86) _ ⟨[(0,_)],[]⟩ _)
 obtain⟨⟨k,n,s⟩,e⟩:=a
 (repeat' first|refine gA ?_|refine gT ?_ ?_<;>intro hv<;>try cases hv;done|fail)
 all_goals refine aM ?_<;>(first|exact⟨⟨⟨k,n,s⟩,e⟩,⟨rfl,rfl⟩,fun h=>h⟩|exact⟨⟨Zero,8⟩,⟨rfl,rfl⟩,fun _=>yU⟩)
noncomputable def zBB(a:Ans):Ans:=(zGA a).choose
def zBA(k n:Int)(s:List Nat)(e:Int):Om CC 86 [.t (.agg [.int .u8 k,.int .i64 n,.str s,.int .i64 e])] []=some (.val (.t (.agg [.int .u8 (zBB ⟨⟨k,n,s⟩,e⟩).v.k,.int .i64 (zBB ⟨⟨k,n,s⟩,e⟩).v.n,.str (zBB ⟨⟨k,n,s⟩,e⟩).v.s,.int .i64 (zBB ⟨⟨k,n,s⟩,e⟩).e])),[]):=(zGA ⟨⟨k,n,s⟩,e⟩).choose_spec.1
def zJT(a:Ans):AOK a→AOK (zBB a):=(zGA a).choose_spec.2
def zJS(a:Ans):∃x:Ans,Om CC 43 [.t (.agg [.int .u8 a.v.k,.int .i64 a.v.n,.str a.v.s,.int .i64 a.e])] []=some (.val (.t (.agg [.int .u8 x.v.k,.int .i64 x.v.n,.str x.v.s,.int .i64 x.e])),[])∧(AOK a→AOK x):=by
 refine zH zRY rfl ?_
 (have F_:=c5 zF zE zD zC (c5 zQ zFj zW3 zNx (c2 zNy @zGq));show W CC 0 13 (zA 43) _ ⟨[(0,_)],[]⟩ _)
 obtain⟨⟨k,n,s⟩,e⟩:=a;have ht:=zBA k n s e;have hp:=zJT ⟨⟨k,n,s⟩,e⟩;have pn:=zGk (zBB ⟨⟨k,n,s⟩,e⟩).v;generalize zBB ⟨⟨k,n,s⟩,e⟩=t at ht hp pn;have hp2:Hid _:=⟨hp⟩
 have pn2:Hid _:=⟨pn⟩
 clear hp pn
 (repeat' first|refine gA ?_|refine gT ?_ ?_<;>intro hv<;>try cases hv;done|fail)
 all_goals refine aM ?_<;>(first|exact⟨t,⟨rfl,rfl⟩,hp2.h⟩|exact⟨⟨NotV t.v,t.e⟩,⟨rfl,rfl⟩,fun _=>pn2.h⟩|exact⟨⟨NotV t.v,0⟩,⟨rfl,rfl⟩,fun _=>pn2.h⟩)
noncomputable def NotU(a:Ans):Ans:=(zJS a).choose
def zLN(k n:Int)(s:List Nat)(e:Int):Om CC 43 [.t (.agg [.int .u8 k,.int .i64 n,.str s,.int .i64 e])] []=some (.val (.t (.agg [.int .u8 (NotU ⟨⟨k,n,s⟩,e⟩).v.k,.int .i64 (NotU ⟨⟨k,n,s⟩,e⟩).v.n,.str (NotU ⟨⟨k,n,s⟩,e⟩).v.s,.int .i64 (NotU ⟨⟨k,n,s⟩,e⟩).e])),[]):=(zJS ⟨⟨k,n,s⟩,e⟩).choose_spec.1
def yDL(a:Ans):AOK a→AOK (NotU a):=(zJS a).choose_spec.2
def zCE (f:Nat) (hb:yY Tryz.prog f=true) (hbp:∀x,CC.prim f x=none) (F:Val→Val→Val) (hF:∀a b,VOK a→VOK b→Om CC f [.t (.sl false false [[.int .u8 a.k,.int .i64 a.n,.str a.s],[.int .u8 b.k,.int .i64 b.n,.str b.s]])] []=some (.val (.t (.agg [.int .u8 (F a b).k,.int .i64 (F a b).n,.str (F a b).s])),[]))
  (hFp:∀a b,VOK a→VOK b→VOK (F a b)) (a b:Ans) (ends:Bool) (ha:AOK a) (hb':AOK b) :
  ∃x:Ans,Om CC 41 [.t (.agg [.int .u8 a.v.k,.int .i64 a.v.n,.str a.v.s,.int .i64 a.e]),.t (.agg [.int .u8 b.v.k,.int .i64 b.v.n,.str b.v.s,.int .i64 b.e]),.t (.bool ends),.t (.fn f)] []=some (.val (.t (.agg [.int .u8 x.v.k,.int .i64 x.v.n,.str x.v.s,.int .i64 x.e])),[])∧AOK x:=by
 refine zH zTV rfl ?_
 (have F_:=c5 zF zN zE zD (c5 zC zQ zFj zH8 (c5 xV zWW zNx zDT (c2 @qL @zG1)));show W CC 0 38 (zA 41) _ ⟨[(0,_),(1,_),(2,_),(3,_)],[]⟩ _)
 obtain⟨⟨k,n,s⟩,e⟩:=a;obtain⟨⟨k',n',s'⟩,e'⟩:=b;have ht:=zBA k n s e;have ht':=zBA k' n' s' e';have hp:=zJT ⟨⟨k,n,s⟩,e⟩ ha;have hp':=zJT ⟨⟨k',n',s'⟩,e'⟩ hb';generalize zBB ⟨⟨k,n,s⟩,e⟩=t at ht hp;generalize zBB ⟨⟨k',n',s'⟩,e'⟩=u at ht' hp';have hf:=hF t.v u.v hp hp';have hfp:=hFp t.v u.v hp hp';clear hF hFp ha hb';obtain⟨⟨tk,tn,ts⟩,te⟩:=t;obtain⟨⟨uk,un,us⟩,ue⟩:=u
 (repeat' first|refine gA ?_|refine gT ?_ ?_<;>intro hv<;>try cases hv;done|fail)
 all_goals refine aM ?_<;>(first|exact⟨⟨⟨tk,tn,ts⟩,te⟩,⟨rfl,rfl⟩,hp⟩|exact⟨⟨⟨uk,un,us⟩,ue⟩,⟨rfl,rfl⟩,hp'⟩|exact⟨⟨F ⟨tk,tn,ts⟩ ⟨uk,un,us⟩,0⟩,⟨rfl,rfl⟩,hfp⟩)
open Classical in
noncomputable def jR(a b:Ans):Ans:=if h:AOK a∧AOK b then (zCE 42 zIG (fun x=>yA _ x (by decide)) All2 zES zLz a b false h.1 h.2).choose else AZero
def zGB(a b:Ans)(ha:AOK a)(hb:AOK b):Om CC 41 [.t (.agg [.int .u8 a.v.k,.int .i64 a.v.n,.str a.v.s,.int .i64 a.e]),.t (.agg [.int .u8 b.v.k,.int .i64 b.v.n,.str b.v.s,.int .i64 b.e]),.t (.bool false),.t (.fn 42)] []=some (.val (.t (.agg [.int .u8 (jR a b).v.k,.int .i64 (jR a b).v.n,.str (jR a b).v.s,.int .i64 (jR a b).e])),[]):=by
 unfold jR;rw[dif_pos ⟨ha,hb⟩];exact(zCE 42 zIG (fun x=>yA _ x (by decide)) All2 zES zLz a b false ha hb).choose_spec.1
def zTb(a b:Ans):AOK (jR a b):=by
 unfold jR;split
 ·rename_i h;exact(zCE 42 zIG (fun x=>yA _ x (by decide)) All2 zES zLz a b false h.1 h.2).choose_spec.2
 exact yU
open Classical in
noncomputable def uW(a b:Ans):Ans:=if h:AOK a∧AOK b then (zCE 44 zLA (fun x=>yA _ x (by decide)) Any2 zEL zJ8 a b true h.1 h.2).choose else AZero
def zLd(a b:Ans)(ha:AOK a)(hb:AOK b):Om CC 41 [.t (.agg [.int .u8 a.v.k,.int .i64 a.v.n,.str a.v.s,.int .i64 a.e]),.t (.agg [.int .u8 b.v.k,.int .i64 b.v.n,.str b.v.s,.int .i64 b.e]),.t (.bool true),.t (.fn 44)] []=some (.val (.t (.agg [.int .u8 (uW a b).v.k,.int .i64 (uW a b).v.n,.str (uW a b).v.s,.int .i64 (uW a b).e])),[]):=by
 unfold uW;rw[dif_pos ⟨ha,hb⟩];exact(zCE 44 zLA (fun x=>yA _ x (by decide)) Any2 zEL zJ8 a b true ha hb).choose_spec.1
def zUs(a b:Ans):AOK (uW a b):=by
 unfold uW;split
 ·rename_i h;exact(zCE 44 zLA (fun x=>yA _ x (by decide)) Any2 zEL zJ8 a b true h.1 h.2).choose_spec.2
 exact yU
def xaZ:=c5 zF zG zE zD (c5 zC zT zL zK (c2 zM zIK))
def zRx(cl:Bool)(es:List (List Tree)):Om CC 85 [.t (.sl true cl es)] []=some (.val (.t (.sl true true [])),[]):=by
 refine zV zUe rfl ?_
 (have F_:=xaZ;show W CC 0 8 (zA 85) _ ⟨[(0,_)],[]⟩ _)
 repeat (first|(with_reducible first|apply jQ|apply zAS|apply zBu|apply zBt|apply kS|apply zAQ|apply zAw|apply zAL|apply kU|apply zBj)|(refine zBz (by kernel_rfl) ?_)|(with_reducible first|apply zAK|apply zAP|apply zAy|apply zAM|apply zAR|apply zBg|apply zCF|apply zCJ|apply zEg|apply zFo|apply zEc|apply zCC)|((with_reducible apply zKb);(focus kernel_rfl);(focus (simp only[beq_true,beq_false,Bool.true_beq,Bool.false_beq,decide_true,decide_false,Int.ofNat_eq_natCast,List.length_map,List.getElem?_map,Option.map_some,xP,wanted,exec1,zAr,qE,xBox,qO,wB,xLen,uT,wN,xH,qD,cellsOf,zJ,opds,qG,get,putT,ret,retO,lit,lit1,patch,put1,load,loadCells,cut,yB,mkAgg,trees,nth,lenOf,indexAddr,storeAt,upd,splice,wP,wU,zAm,uI,uG,kK,kJ,kO,vG,vI,uH,convert,kC,qU,kF,qV,zAc,qT,qW,qS,kE,kB,kA,vY, kI,kM,qZ,qX,kN,qY,kL,kG,uL,qI,Nat.beq,beq_self_eq_true,Nat.zero_add,Nat.add_zero,List.toList_toArray,List.map_cons,List.map_nil,List.length_cons,List.length_nil,List.take,List.drop,List.all_cons,List.all_nil,List.cons_append,List.nil_append,List.append_nil,Bool.and_true,Bool.true_and,Bool.not_true,Bool.not_false,Bool.and_self,if_true,if_false,reduceIte,Nat.reduceAdd,Nat.reduceLeDiff,Nat.reduceEqDiff,Sl.t,Val.c,Slot.c,Tpl.c,Fact.c,Bind.c,Node.c,Test.c,STest.c,Pat.c,intC,and_self,true_and,and_true,zLr,zNA,zGn,binop,zF,zG,zE,zD,zC,zT,zL,zK,zM,zIK];exact rfl))))
 refine zGp (v:=true) (by(simp only[zJ,get,lit,lit1,Nat.beq,uO,if_true])) (fun hv=>?_) (fun hv=>?_)
 ·repeat (first|(with_reducible first|apply jQ|apply zAS|apply zBu|apply zBt|apply kS|apply zAQ|apply zAw|apply zAL|apply kU|apply zBj)|(refine zBz (by kernel_rfl) ?_)|(with_reducible first|apply zAK|apply zAP|apply zAy|apply zAM|apply zAR|apply zBg|apply zCF|apply zCJ|apply zEg|apply zFo|apply zEc|apply zCC)|((with_reducible apply zKb);(focus kernel_rfl);(focus (simp only[beq_true,beq_false,Bool.true_beq,Bool.false_beq,decide_true,decide_false,Int.ofNat_eq_natCast,List.length_map,List.getElem?_map,Option.map_some,xP,wanted,exec1,zAr,qE,xBox,qO,wB,xLen,uT,wN,xH,qD,cellsOf,zJ,opds,qG,get,putT,ret,retO,lit,lit1,patch,put1,load,loadCells,cut,yB,mkAgg,trees,nth,lenOf,indexAddr,storeAt,upd,splice,wP,wU,zAm,uI,uG,kK,kJ,kO,vG,vI,uH,convert,kC,qU,kF,qV,zAc,qT,qW,qS,kE,kB,kA,vY, kI,kM,qZ,qX,kN,qY,kL,kG,uL,qI,Nat.beq,beq_self_eq_true,Nat.zero_add,Nat.add_zero,List.toList_toArray,List.map_cons,List.map_nil,List.length_cons,List.length_nil,List.take,List.drop,List.all_cons,List.all_nil,List.cons_append,List.nil_append,List.append_nil,Bool.and_true,Bool.true_and,Bool.not_true,Bool.not_false,Bool.and_self,if_true,if_false,reduceIte,Nat.reduceAdd,Nat.reduceLeDiff,Nat.reduceEqDiff,Sl.t,Val.c,Slot.c,Tpl.c,Fact.c,Bind.c,Node.c,Test.c,STest.c,Pat.c,intC,and_self,true_and,and_true,zF,zG,zE,zD,zC,zT,zL,zK,zM,zIK];exact rfl))))
  exact⟨by kernel_rfl,.t (.sl true true []),by kernel_rfl,by kernel_rfl⟩
 cases hv
def zS7(cl:Bool)(l:List Node)(hl:l.length<4294967296):Om CC 85 [.t (.sl false cl (l.map Node.c))] []=some (.val (.hs 0 0),[.arr 8 0 false (l.map Node.c)]):=by
 refine zV zUe rfl ?_
 (have F_:=xaZ;show W CC 0 8 (zA 85) _ ⟨[(0,_)],[]⟩ _)
 repeat (first|(with_reducible first|apply jQ|apply zAS|apply zBu|apply zBt|apply kS|apply zAQ|apply zAw|apply zAL|apply kU|apply zBj)|(refine zBz (by kernel_rfl) ?_)|(with_reducible first|apply zAK|apply zAP|apply zAy|apply zAM|apply zAR|apply zBg|apply zCF|apply zCJ|apply zEg|apply zFo|apply zEc|apply zCC)|((with_reducible apply zKb);(focus kernel_rfl);(focus (simp only[beq_true,beq_false,Bool.true_beq,Bool.false_beq,decide_true,decide_false,Int.ofNat_eq_natCast,List.length_map,List.getElem?_map,Option.map_some,xP,wanted,exec1,zAr,qE,xBox,qO,wB,xLen,uT,wN,xH,qD,cellsOf,zJ,opds,qG,get,putT,ret,retO,lit,lit1,patch,put1,load,loadCells,cut,yB,mkAgg,trees,nth,lenOf,indexAddr,storeAt,upd,splice,wP,wU,zAm,uI,uG,kK,kJ,kO,vG,vI,uH,convert,kC,qU,kF,qV,zAc,qT,qW,qS,kE,kB,kA,vY, kI,kM,qZ,qX,kN,qY,kL,kG,uL,qI,Nat.beq,beq_self_eq_true,Nat.zero_add,Nat.add_zero,List.toList_toArray,List.map_cons,List.map_nil,List.length_cons,List.length_nil,List.take,List.drop,List.all_cons,List.all_nil,List.cons_append,List.nil_append,List.append_nil,Bool.and_true,Bool.true_and,Bool.not_true,Bool.not_false,Bool.and_self,if_true,if_false,reduceIte,Nat.reduceAdd,Nat.reduceLeDiff,Nat.reduceEqDiff,Sl.t,Val.c,Slot.c,Tpl.c,Fact.c,Bind.c,Node.c,Test.c,STest.c,Pat.c,intC,and_self,true_and,and_true,zLr,zNA,zGn,binop,zF,zG,zE,zD,zC,zT,zL,zK,zM,zIK];exact rfl))))
 refine zGp (v:=false) (by(simp only[zJ,get,lit,lit1,Nat.beq,uO,if_true])) (fun hv=>?_) (fun hv=>?_)
 ·cases hv
 have hle:lens 8 (l.map Node.c)=true:=vF Node.c 8 (fun a=>rfl) l
 repeat (first|(with_reducible first|apply jQ|apply zAS|apply zBu|apply zBt|apply kS|apply zAQ|apply zAw|apply zAL|apply kU|apply zBj)|(refine zBz (by kernel_rfl) ?_)|(with_reducible first|apply zAK|apply zAP|apply zAy|apply zAM|apply zAR|apply zBg|apply zCF|apply zCJ|apply zEg|apply zFo|apply zEc|apply zCC)|((with_reducible apply zKb);(focus kernel_rfl);(focus (simp only[beq_true,beq_false,Bool.true_beq,Bool.false_beq,decide_true,decide_false,Int.ofNat_eq_natCast,List.length_map,List.getElem?_map,Option.map_some,xP,wanted,exec1,zAr,qE,xBox,qO,wB,xLen,uT,wN,xH,qD,cellsOf,zJ,opds,qG,get,putT,ret,retO,lit,lit1,patch,put1,load,loadCells,cut,yB,mkAgg,trees,nth,lenOf,indexAddr,storeAt,upd,splice,wP,wU,zAm,uI,uG,kK,kJ,kO,vG,vI,uH,convert,kC,qU,kF,qV,zAc,qT,qW,qS,kE,kB,kA,vY, kI,kM,qZ,qX,kN,qY,kL,kG,uL,qI,Nat.beq,beq_self_eq_true,Nat.zero_add,Nat.add_zero,List.toList_toArray,List.map_cons,List.map_nil,List.length_cons,List.length_nil,List.take,List.drop,List.all_cons,List.all_nil,List.cons_append,List.nil_append,List.append_nil,Bool.and_true,Bool.true_and,Bool.not_true,Bool.not_false,Bool.and_self,if_true,if_false,reduceIte,Nat.reduceAdd,Nat.reduceLeDiff,Nat.reduceEqDiff,Sl.t,Val.c,Slot.c,Tpl.c,Fact.c,Bind.c,Node.c,Test.c,STest.c,Pat.c,intC,and_self,true_and,and_true,xN,yQ,xC,xC.go,zAj,vO,append,added,elems,hle,hl,List.replicate,List.append_nil,List.nil_append,Nat.not_lt_zero,Nat.zero_mul,decide_true,zF,zG,zE,zD,zC,zT,zL,zK,zM,zIK];exact rfl))))
 exact⟨by kernel_rfl,.hs 0 1,by kernel_rfl,by kernel_rfl⟩
def zGr(op:Int)(l:List Node):List Node:=l++[⟨3,Zero,[],⟨true,true,[]⟩,0,0⟩,⟨op,Zero,[],⟨false,false,[(l.length:Int),(l.length:Int) - 1]⟩,0,0⟩]
def zV5 (op:Int) (nl cl:Bool) (l:List Node) (ha:nl=true→l=[]) (hl:l.length<4294967000) :
  Om CC 40 [.t (.int .u8 op),.t (.sl nl cl (l.map Node.c))] []=some (.val (.t (.sl false false ((zGr op l).map Node.c))),[]):=by
 refine zV yF1 rfl ?_
 (have F_:=c5 zF zG zE zD (c5 zC zT zL zK (c3 zM yJl yH9));show W CC 0 23 (zA 40) _ ⟨[(0,_),(1,_)],[]⟩ _)
 have hw:IntKind.i64.wrap ((l.length:Int) - 1)=(l.length:Int) - 1:=by rw[wrap64]<;>omega
 have hle:lens 8 (l.map Node.c)=true:=vF Node.c 8 (fun a=>rfl) l;have hs1:decide (l.length+1<4294967296)=true:=by simp;omega
 have hs2:decide (l.length+1+1<4294967296)=true:=by simp;omega
 have hh:uV 8 (l.map Node.c)=true:=by cases l<;>rfl
 cases nl with
 |true =>
  obtain rfl:=ha rfl;have hc:=zRx cl [];have hw0:IntKind.i64.wrap (((0:Nat):Int) - 1)=((0:Nat):Int) - 1:=by decide
  clear hle hs1 hs2 hh ha hl
  (repeat' first|refine gA ?_|refine gT ?_ ?_<;>intro hv<;>try cases hv;done|fail)
  (refine aO ?_ ?_)
  ·rfl
  rfl
 |false =>
  have hc:=zS7 cl l (by omega);clear ha hl
  (have x0_:=@Nat.sub_self;have x1_:=@List.length_append.{0};(repeat' first|refine gA ?_|refine gT ?_ ?_<;>intro hv<;>try cases hv;done|fail);all_goals clear x0_ x1_)
  (refine aO ?_ ?_)
  ·simp only[zGr,List.map_append,List.append_assoc];rfl
  rfl
def vA(x:Test):List (Int×Sl Node) :=
 if x.op=7 then [(if x.low then 11 else 12,x.a),(if x.high then 9 else 10,x.b)] else match zBM x.op with
  |some s=>[(s,x.a)]
  |none=>[]
def opsT(l:List (Int×Sl Node)):Tree:=match l with
 |[]=>.sl true true []
 |l=>.sl false false (l.map fun p=>[.int .u8 p.1])
def zAs(l:List (Int×Sl Node)):Tree:=match l with
 |[]=>.sl true true []
 |l=>.sl false false (l.map fun p=>[p.2.t Node.c])
def zVb(x:Test):Om CC 38 [.t (.agg x.c)] []=some (.val (.tup [.t (opsT (vA x)),.t (zAs (vA x))]),[]):=by
 refine zV yE2 rfl ?_
 (have F_:=c5 zF zG zN zE (c5 zD zC zT zL (c5 zK xM zKF zW9 (c5 zA2 zA1 zM yHN (c5 zNo @sgn0 @sgn1 @sgn2 (c2 @sgn3 @sgn4)))));show W CC 0 39 (zA 38) _ ⟨[(0,_)],[]⟩ _)
 obtain⟨op,⟨anl,acl,al⟩,⟨bnl,bcl,bl⟩,low,high,kids,line,col⟩:=x;have hs:=zGC
 by_cases h7:op=7
 ·have e7:(op==7)=true:=by simp [h7]
  cases low<;>cases high
  all_goals (simp only[vA,h7,if_true,Bool.false_eq_true,if_false,opsT,zAs,List.map_cons,List.map_nil,Sl.t];clear h7)<;>(repeat' first|refine gA ?_|refine gT ?_ ?_<;>intro hv<;>try cases hv;done|fail)<;>refine aO ?_ ?_<;>(rfl)
 have e7:(op==7)=false:=by simpa using h7
 have w0:IntKind.i64.wrap (0+1)=1:=by decide
 have w1:IntKind.i64.wrap (1+1)=2:=by decide
 have w2:IntKind.i64.wrap (2+1)=3:=by decide
 have w3:IntKind.i64.wrap (3+1)=4:=by decide
 have w4:IntKind.i64.wrap (4+1)=5:=by decide
 have d0:decide ((0:Int)<5)=true:=by decide
 have d1:decide ((1:Int)<5)=true:=by decide
 have d2:decide ((2:Int)<5)=true:=by decide
 have d3:decide ((3:Int)<5)=true:=by decide
 have d4:decide ((4:Int)<5)=true:=by decide
 have d5:decide ((5:Int)<5)=false:=by decide
 by_cases h2:op=2
 ·have e2:((2:Int)==op)=true:=by simp [h2]
  have hp:vA ⟨op,⟨anl,acl,al⟩,⟨bnl,bcl,bl⟩,low,high,kids,line,col⟩=[(7,⟨anl,acl,al⟩)]:=by simp [vA,zBM,h2]
  rw[hp];simp only[opsT,zAs,List.map_cons,List.map_nil,Sl.t];clear hp h7 h2
  (repeat' first|refine gA ?_|refine gT ?_ ?_<;>intro hv<;>try cases hv;done|refine aK ?_|fail)
  (refine aO ?_ ?_)
  ·rfl
  rfl
 have e2:((2:Int)==op)=false:=by simp;omega
 by_cases h3:op=3
 ·have e3:((3:Int)==op)=true:=by simp [h3]
  have hp:vA ⟨op,⟨anl,acl,al⟩,⟨bnl,bcl,bl⟩,low,high,kids,line,col⟩=[(9,⟨anl,acl,al⟩)]:=by simp [vA,zBM,h3]
  rw[hp];simp only[opsT,zAs,List.map_cons,List.map_nil,Sl.t];clear hp h7 h2 h3
  (repeat' first|refine gA ?_|refine gT ?_ ?_<;>intro hv<;>try cases hv;done|refine aK ?_|fail)
  (refine aO ?_ ?_)
  ·rfl
  rfl
 have e3:((3:Int)==op)=false:=by simp;omega
 by_cases h4:op=4
 ·have e4:((4:Int)==op)=true:=by simp [h4]
  have hp:vA ⟨op,⟨anl,acl,al⟩,⟨bnl,bcl,bl⟩,low,high,kids,line,col⟩=[(10,⟨anl,acl,al⟩)]:=by simp [vA,zBM,h4]
  rw[hp];simp only[opsT,zAs,List.map_cons,List.map_nil,Sl.t];clear hp h7 h2 h3 h4
  (repeat' first|refine gA ?_|refine gT ?_ ?_<;>intro hv<;>try cases hv;done|refine aK ?_|fail)
  (refine aO ?_ ?_)
  ·rfl
  rfl
 have e4:((4:Int)==op)=false:=by simp;omega
 by_cases h5:op=5
 ·have e5:((5:Int)==op)=true:=by simp [h5]
  have hp:vA ⟨op,⟨anl,acl,al⟩,⟨bnl,bcl,bl⟩,low,high,kids,line,col⟩=[(11,⟨anl,acl,al⟩)]:=by simp [vA,zBM,h5]
  rw[hp];simp only[opsT,zAs,List.map_cons,List.map_nil,Sl.t];clear hp h7 h2 h3 h4 h5
  (repeat' first|refine gA ?_|refine gT ?_ ?_<;>intro hv<;>try cases hv;done|refine aK ?_|fail)
  (refine aO ?_ ?_)
  ·rfl
  rfl
 have e5:((5:Int)==op)=false:=by simp;omega
 by_cases h6:op=6
 ·have e6:((6:Int)==op)=true:=by simp [h6]
  have hp:vA ⟨op,⟨anl,acl,al⟩,⟨bnl,bcl,bl⟩,low,high,kids,line,col⟩=[(12,⟨anl,acl,al⟩)]:=by simp [vA,zBM,h6]
  rw[hp];simp only[opsT,zAs,List.map_cons,List.map_nil,Sl.t];clear hp h7 h2 h3 h4 h5 h6
  (repeat' first|refine gA ?_|refine gT ?_ ?_<;>intro hv<;>try cases hv;done|refine aK ?_|fail)
  (refine aO ?_ ?_)
  ·rfl
  rfl
 have e6:((6:Int)==op)=false:=by simp;omega
 have hp:vA ⟨op,⟨anl,acl,al⟩,⟨bnl,bcl,bl⟩,low,high,kids,line,col⟩=[]:=by simp [vA,zBM,h7,h2,h3,h4,h5,h6]
 rw[hp];simp only[opsT,zAs];clear hp h7 h2 h3 h4 h5 h6
 (repeat' first|refine gA ?_|refine gT ?_ ?_<;>intro hv<;>try cases hv;done|refine aK ?_|fail)
 (refine aO ?_ ?_)
 ·rfl
 rfl
def uP(op:Int)(l:List SNode):List SNode:=l++[⟨3,Zero,[],[]⟩,⟨op,Zero,[],[(l.length:Int),(l.length:Int) - 1]⟩]
def zUV(op:Int)(l:List Node):(zGr op l).map Node.s=uP op (l.map Node.s):=by
 simp [zGr,uP,Node.s]
def zMH(x:Test):zF9 x.s=(vA x).map fun p=>(p.1,p.2.l.map Node.s):=by
 unfold zF9 vA Test.s;dsimp only;split
 ·rfl
 cases zBM x.op<;>rfl
noncomputable def zNs(x:STst)(self:Val)(vars:List Bind):List Ans:=(zF9 x).map fun p=>uD (uP p.1 p.2) self vars
noncomputable def zA9(op:Int)(kl:List Ans):Ans :=
 if op=1 then ⟨⟨4,1,[]⟩,0⟩ else if op=8 then NotU (getA kl 0) else if op=9 then (kl.drop 1).foldl uW (getA kl 0) else ⟨Zero,2⟩
noncomputable def jF(x:STst)(al:List Ans)(self:Val)(vars:List Bind):Ans :=
 match zNs x self vars with
 |[a]=>a
 |[a,b]=>jR a b
 |_=>zA9 x.op (zBU al x.kids)
noncomputable def zAH(ts:List STst)(self:Val)(vars:List Bind):Nat→List Ans
 |0=>[]
 |i+1=>zAH ts self vars i++[match ts[i]? with
  |some x=>jF x (zAH ts self vars i) self vars
  |none=>AZero]
noncomputable def kZ(ts:List STst)(self:Val)(vars:List Bind):Ans:=zHc (zAH ts self vars ts.length)
def zHu(ts:List STst)(self:Val)(vars:List Bind):∀i,(zAH ts self vars i).length=i
 |0=>rfl
 |i+1=>by simp [zAH,zHu ts self vars i]
noncomputable def SemA(self:Val)(vars:List Bind):Sem:=⟨fun op l=>uD (uP op l) self vars,jR,uW,NotU⟩
def zSW(x:STst)(al:List Ans)(self:Val)(vars:List Bind):jF x al self vars=zFr (SemA self vars) x al:=by
 unfold jF zFr zNs SemA;dsimp only;cases (zF9 x).map fun p=>uD (uP p.1 p.2) self vars with
 |nil=>rfl
 |cons a l=>cases l with
  |nil=>rfl
  |cons b l=>cases l<;>rfl
def zMk(ts:List STst)(self:Val)(vars:List Bind):∀i,zAH ts self vars i=zEr (SemA self vars) ts i
 |0=>rfl
 |i+1=>by
  rw[zAH,zEr,zMk ts self vars i];cases ts[i]? with
  |none=>rfl
  |some x=>simp only[zSW]
def zQK(ts:List STst)(self:Val)(vars:List Bind):kZ ts self vars=zDW (SemA self vars) ts:=by
 unfold kZ zDW;rw[zMk]
structure XOK (T:Sl Node):Prop where
 nil:T.nl=true→T.l=[]
 len:T.l.length<4294967000
 kids:∀x ∈ T.l,x.kids.l.length<4294967295
 val:∀x ∈ T.l,VOK x.v
structure TOK (x:Test):Prop where
 a:XOK x.a
 b:XOK x.b
 kids:x.kids.l.length<4294967295
def zPH (s:Int) (T:Sl Node) (self:Val) (vnl vcl:Bool) (vars:List Bind) (hT:XOK T) (hs:VOK self) (hv:∀b ∈ vars,VOK b.v) (hvl:vars.length<9223372036854775808) :
  ∃L:List (List Tree),Om CC 40 [.t (.int .u8 s),.t (.sl T.nl T.cl (T.l.map Node.c))] []=some (.val (.t (.sl false false L)),[]) ∧
   Om CC 39 [.t (.sl false false L),.t (.agg [.int .u8 self.k,.int .i64 self.n,.str self.s]),.t (.sl vnl vcl (vars.map Bind.c))] [] =
    some (.val (.tup [.t (.agg [.int .u8 (uD (uP s (T.l.map Node.s)) self vars).v.k,.int .i64 (uD (uP s (T.l.map Node.s)) self vars).v.n,.str (uD (uP s (T.l.map Node.s)) self vars).v.s]),.t (.int .i64 (uD (uP s (T.l.map Node.s)) self vars).e)]),[]):=by
 refine⟨_,zV5 s T.nl T.cl T.l hT.nil hT.len,?_⟩;have h:=zVN ⟨false,false,zGr s T.l⟩ self vnl vcl vars ?_ ?_ hvl ?_ hs hv
 ·rw[zUV] at h;exact h
 ·have:=hT.len;simp [zGr];omega
 ·intro x hx;rcases List.mem_append.1 hx with h|h
  ·exact hT.kids x h
  simp at h;rcases h with rfl|rfl<;>simp
 intro x hx;rcases List.mem_append.1 hx with h|h
 ·exact hT.val x h
 simp at h;rcases h with rfl|rfl<;>exact yU
def zOw(s:Int)(T:Sl Node)(self:Val)(vars:List Bind)(hT:XOK T)(hs:VOK self)(hv:∀b ∈ vars,VOK b.v):AOK (uD (uP s (T.l.map Node.s)) self vars):=by
 unfold uD;refine yAq _ (zLI _ _ _ (fun x hx=>?_) hs hv _);rcases List.mem_append.1 hx with h|h
 ·obtain⟨y,hy,rfl⟩:=List.mem_map.1 h;exact hT.val y hy
 simp at h;rcases h with rfl|rfl<;>exact yU
def zJk(x:Test):vA x=[]∨(∃s,vA x=[(s,x.a)])∨∃s t,vA x=[(s,x.a),(t,x.b)]:=by
 unfold vA;split
 ·exact .inr (.inr ⟨_,_,rfl⟩)
 split
 ·exact .inr (.inl ⟨_,rfl⟩)
 exact .inl rfl
def yBe(al:List Ans)(h:∀a ∈ al,AOK a)(k:Int):AOK (kidT al k):=by
 unfold kidT;split
 ·exact yU
 exact zBF h _
def zQr(al:List Ans)(h:∀a ∈ al,AOK a)(ks:List Int):∀a ∈ zBU al ks,AOK a:=by
 unfold zBU;split
 ·intro a ha;rw[List.mem_singleton.1 ha];exact yU
 intro a ha;obtain⟨k,_,rfl⟩:=List.mem_map.1 ha;exact yBe al h k
def zL1:∀(l:List Ans) (a:Ans),AOK a→AOK (l.foldl uW a)
 |[],a,h=>h
 |b::l,a,_=>zL1 l _ (zUs a b)
def zPA (x:Test) (al:List Ans) (self:Val) (vars:List Bind) :
  (vA x=[]→jF x.s al self vars=zA9 x.op (zBU al x.kids.l))∧(∀s,vA x=[(s,x.a)]→jF x.s al self vars=uD (uP s (x.a.l.map Node.s)) self vars) ∧
   (∀s t,vA x=[(s,x.a),(t,x.b)]→jF x.s al self vars=jR (uD (uP s (x.a.l.map Node.s)) self vars) (uD (uP t (x.b.l.map Node.s)) self vars)):=by
 refine⟨fun h=>?_,fun s h=>?_,fun s t h=>?_⟩<;>(unfold jF zNs;rw[zMH,h];rfl)
def zY0(x:Test)(al:List Ans)(self:Val)(vars:List Bind)(hx:TOK x)(h:∀a ∈ al,AOK a)(hs:VOK self)(hv:∀b ∈ vars,VOK b.v):AOK (jF x.s al self vars):=by
 have hrest:AOK (zA9 x.op (zBU al x.kids.l)):=by
  unfold zA9;have hk:=zQr al h x.kids.l;split
  ·exact⟨zZ7.2,by simp⟩
  split
  ·exact yDL _ (zBF hk 0)
  split
  ·exact zL1 _ _ (zBF hk 0)
  exact yU
 unfold jF zNs;rw[zMH];rcases zJk x with h1|⟨s,h1⟩|⟨s,t,h1⟩
 ·rw[h1];exact hrest
 ·rw[h1];exact zOw s x.a self vars hx.a hs hv
 rw[h1];exact zTb _ _
end Go.Ab
