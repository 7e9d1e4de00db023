/- Lemmas. -/
import Derived.Test.YtchgjnkleakhoaaGreatDoorG20
set_option maxRecDepth 1000000
set_option maxHeartbeats 40000000
set_option linter.all false
namespace Go.Ab
open Go.Proofs
attribute [local irreducible] W RW RR
def zEV(a:Ans):Bool:=(a.e==0)&&((a.v.k==4)&&(a.v.n==1))
def zUK(a:Ans):Om CC 25 [.t (.agg [.int .u8 a.v.k,.int .i64 a.v.n,.str a.v.s]),.t (.int .i64 a.e)] []=some (.val (.t (.bool (zEV a))),[]):=by
 refine zK yEh rfl ?_
 (have F_:=c5 zF zE zD zB (c2 zU yGk);show W CC 0 17 (zA 25) _ ⟨[(0,_),(1,_)],[]⟩ _)
 unfold zEV;cases h1:a.e==0<;>cases h2:a.v.k==4<;>cases h3:a.v.n==1
 all_goals (refine gA ?_)<;>refine aK ?_ ?_<;>(rfl)
def xaZ:=c5 zF zE zD zB (c3 zU zCo zRR)
def zHy(a:Ans):∃x:Ans,Om CC 85 [.t (.agg [.int .u8 a.v.k,.int .i64 a.v.n,.str a.v.s,.int .i64 a.e])] []=some (.val (.t (.agg [.int .u8 x.v.k,.int .i64 x.v.n,.str x.v.s,.int .i64 x.e])),[])∧(AOK a→AOK x):=by
 refine zJ zO0 rfl ?_
 (have F_:=xaZ;show W CC 0 20 (zA 85) _ ⟨[(0,_)],[]⟩ _)
 obtain⟨⟨k,n,s⟩,e⟩:=a
 (repeat' first|refine gA ?_|refine gT ?_ ?_<;>intro hv|fail)
 all_goals refine aJ ?_<;>(first|exact⟨⟨⟨k,n,s⟩,e⟩,⟨rfl,rfl⟩,fun h=>h⟩|exact⟨⟨Zero,8⟩,⟨rfl,rfl⟩,fun _=>yR⟩)
noncomputable def zBN(a:Ans):Ans:=(zHy a).choose
def zBX(k n:Int)(s:List Nat)(e:Int):Om CC 85 [.t (.agg [.int .u8 k,.int .i64 n,.str s,.int .i64 e])] []=some (.val (.t (.agg [.int .u8 (zBN ⟨⟨k,n,s⟩,e⟩).v.k,.int .i64 (zBN ⟨⟨k,n,s⟩,e⟩).v.n,.str (zBN ⟨⟨k,n,s⟩,e⟩).v.s,.int .i64 (zBN ⟨⟨k,n,s⟩,e⟩).e])),[]):=(zHy ⟨⟨k,n,s⟩,e⟩).choose_spec.1
def zKb(a:Ans):AOK a→AOK (zBN a):=(zHy a).choose_spec.2
def zKk(a:Ans):∃x:Ans,Om CC 56 [.t (.agg [.int .u8 a.v.k,.int .i64 a.v.n,.str a.v.s,.int .i64 a.e])] []=some (.val (.t (.agg [.int .u8 x.v.k,.int .i64 x.v.n,.str x.v.s,.int .i64 x.e])),[])∧(AOK a→AOK x):=by
 refine zJ zOn rfl ?_
 (have F_:=c5 zF zE zD zB (c5 zU zCo zRZ zK3 (c2 zNQ @zGH));show W CC 0 13 (zA 56) _ ⟨[(0,_)],[]⟩ _)
 obtain⟨⟨k,n,s⟩,e⟩:=a;have ht:=zBX k n s e;have hp:=zKb ⟨⟨k,n,s⟩,e⟩;have pn:=zGD (zBN ⟨⟨k,n,s⟩,e⟩).v;generalize zBN ⟨⟨k,n,s⟩,e⟩=t at ht hp pn;have hp2:Hid _:=⟨hp⟩
 have pn2:Hid _:=⟨pn⟩
 clear hp pn
 (repeat' first|refine gA ?_|refine gT ?_ ?_<;>intro hv|fail)
 all_goals refine aJ ?_<;>(first|exact⟨t,⟨rfl,rfl⟩,hp2.h⟩|exact⟨⟨NotV t.v,t.e⟩,⟨rfl,rfl⟩,fun _=>pn2.h⟩|exact⟨⟨NotV t.v,0⟩,⟨rfl,rfl⟩,fun _=>pn2.h⟩)
noncomputable def NotU(a:Ans):Ans:=(zKk a).choose
def zIX(k n:Int)(s:List Nat)(e:Int):Om CC 56 [.t (.agg [.int .u8 k,.int .i64 n,.str s,.int .i64 e])] []=some (.val (.t (.agg [.int .u8 (NotU ⟨⟨k,n,s⟩,e⟩).v.k,.int .i64 (NotU ⟨⟨k,n,s⟩,e⟩).v.n,.str (NotU ⟨⟨k,n,s⟩,e⟩).v.s,.int .i64 (NotU ⟨⟨k,n,s⟩,e⟩).e])),[]):=(zKk ⟨⟨k,n,s⟩,e⟩).choose_spec.1
def yCK(a:Ans):AOK a→AOK (NotU a):=(zKk a).choose_spec.2
def zC6 (f:Nat) (hb:yX Tryz.prog f=true) (hbp:∀x,CC.prim f x=none) (F:Val→Val→Val) (hF:∀a b,VOK a→VOK b→Om CC f [.t (.sl false false [[.int .u8 a.k,.int .i64 a.n,.str a.s],[.int .u8 b.k,.int .i64 b.n,.str b.s]])] []=some (.val (.t (.agg [.int .u8 (F a b).k,.int .i64 (F a b).n,.str (F a b).s])),[]))
  (hFp:∀a b,VOK a→VOK b→VOK (F a b)) (a b:Ans) (ends:Bool) (ha:AOK a) (hb':AOK b) :
  ∃x:Ans,Om CC 54 [.t (.agg [.int .u8 a.v.k,.int .i64 a.v.n,.str a.v.s,.int .i64 a.e]),.t (.agg [.int .u8 b.v.k,.int .i64 b.v.n,.str b.v.s,.int .i64 b.e]),.t (.bool ends),.t (.fn f)] []=some (.val (.t (.agg [.int .u8 x.v.k,.int .i64 x.v.n,.str x.v.s,.int .i64 x.e])),[])∧AOK x:=by
 refine zJ zTw rfl ?_
 (have F_:=c5 zF zQ zE zD (c5 xE zB zU zCo (c5 zIE zXo zK3 zDz (c2 @uU @zHm)));show W CC 0 38 (zA 54) _ ⟨[(0,_),(1,_),(2,_),(3,_)],[]⟩ _)
 obtain⟨⟨k,n,s⟩,e⟩:=a;obtain⟨⟨k',n',s'⟩,e'⟩:=b;have ht:=zBX k n s e;have ht':=zBX k' n' s' e';have hp:=zKb ⟨⟨k,n,s⟩,e⟩ ha;have hp':=zKb ⟨⟨k',n',s'⟩,e'⟩ hb';generalize zBN ⟨⟨k,n,s⟩,e⟩=t at ht hp;generalize zBN ⟨⟨k',n',s'⟩,e'⟩=u at ht' hp';have hf:=hF t.v u.v hp hp';have hfp:=hFp t.v u.v hp hp';clear hF hFp ha hb';obtain⟨⟨tk,tn,ts⟩,te⟩:=t;obtain⟨⟨uk,un,us⟩,ue⟩:=u
 (repeat' first|refine gA ?_|refine gT ?_ ?_<;>intro hv|fail)
 all_goals refine aJ ?_<;>(first|exact⟨⟨⟨tk,tn,ts⟩,te⟩,⟨rfl,rfl⟩,hp⟩|exact⟨⟨⟨uk,un,us⟩,ue⟩,⟨rfl,rfl⟩,hp'⟩|exact⟨⟨F ⟨tk,tn,ts⟩ ⟨uk,un,us⟩,0⟩,⟨rfl,rfl⟩,hfp⟩)
open Classical in
noncomputable def kT(a b:Ans):Ans:=if h:AOK a∧AOK b then (zC6 55 zI7 (fun x=>zZ _ x (by decide)) All2 zFf zK9 a b false h.1 h.2).choose else AZero
def zHs(a b:Ans)(ha:AOK a)(hb:AOK b):Om CC 54 [.t (.agg [.int .u8 a.v.k,.int .i64 a.v.n,.str a.v.s,.int .i64 a.e]),.t (.agg [.int .u8 b.v.k,.int .i64 b.v.n,.str b.v.s,.int .i64 b.e]),.t (.bool false),.t (.fn 55)] []=some (.val (.t (.agg [.int .u8 (kT a b).v.k,.int .i64 (kT a b).v.n,.str (kT a b).v.s,.int .i64 (kT a b).e])),[]):=by
 unfold kT;rw[dif_pos ⟨ha,hb⟩];exact(zC6 55 zI7 (fun x=>zZ _ x (by decide)) All2 zFf zK9 a b false ha hb).choose_spec.1
def zTX(a b:Ans):AOK (kT a b):=by
 unfold kT;split
 ·rename_i h;exact(zC6 55 zI7 (fun x=>zZ _ x (by decide)) All2 zFf zK9 a b false h.1 h.2).choose_spec.2
 exact yR
open Classical in
noncomputable def uW(a b:Ans):Ans:=if h:AOK a∧AOK b then (zC6 57 zLT (fun x=>zZ _ x (by decide)) Any2 zFk zK7 a b true h.1 h.2).choose else AZero
def zLE(a b:Ans)(ha:AOK a)(hb:AOK b):Om CC 54 [.t (.agg [.int .u8 a.v.k,.int .i64 a.v.n,.str a.v.s,.int .i64 a.e]),.t (.agg [.int .u8 b.v.k,.int .i64 b.v.n,.str b.v.s,.int .i64 b.e]),.t (.bool true),.t (.fn 57)] []=some (.val (.t (.agg [.int .u8 (uW a b).v.k,.int .i64 (uW a b).v.n,.str (uW a b).v.s,.int .i64 (uW a b).e])),[]):=by
 unfold uW;rw[dif_pos ⟨ha,hb⟩];exact(zC6 57 zLT (fun x=>zZ _ x (by decide)) Any2 zFk zK7 a b true ha hb).choose_spec.1
def zVf(a b:Ans):AOK (uW a b):=by
 unfold uW;split
 ·rename_i h;exact(zC6 57 zLT (fun x=>zZ _ x (by decide)) Any2 zFk zK7 a b true h.1 h.2).choose_spec.2
 exact yR
def xa0:=c5 zF zG zE zD (c5 zI zB zO zL (c2 zN zIT))
def zRG(cl:Bool)(es:List (List Tree)):Om CC 84 [.t (.sl true cl es)] []=some (.val (.t (.sl true true [])),[]):=by
 refine zK zUC rfl ?_
 (have F_:=xa0;show W CC 0 8 (zA 84) _ ⟨[(0,_)],[]⟩ _)
 repeat (first|(with_reducible first|apply uX|apply jN|apply zAy|apply zAC|apply uF|apply jI|apply kK|apply jP|apply uD|apply zAz)|(refine zAB (by kernel_rfl) ?_)|(with_reducible first|apply jJ|apply jL|apply kH|apply jO|apply jK|apply zCU|apply zBn|apply zBq|apply zCr|apply zEk|apply zCt|apply zBu)|((with_reducible apply zFb);(focus kernel_rfl);(focus (simp only[beq_true,beq_false,Bool.true_beq,Bool.false_beq,decide_true,decide_false,Int.ofNat_eq_natCast,List.length_map,List.getElem?_map,Option.map_some,xH,wanted,exec1,zAq,uY,xBox,qS,wB,xLen,uQ,wK,xM,uZ,cellsOf,zM,opds,qA,get,putT,ret,retO,lit,lit1,patch,put1,load,loadCells,cut,zW,mkAgg,trees,nth,lenOf,indexAddr,storeAt,upd,splice,wO,wU,zAm,uM,uL,kA,kB,kE,kM,kN,zAf,convert,zAQ,zA0,zAP,zAI,zB4,zA1,zAU,zAS,zAK,zAN,zAX,kO, qU,qZ,qY,qW,kC,kD,qV,qX,uN,qL,Nat.beq,beq_self_eq_true,Nat.zero_add,Nat.add_zero,List.toList_toArray,List.map_cons,List.map_nil,List.length_cons,List.length_nil,List.take,List.drop,List.all_cons,List.all_nil,List.cons_append,List.nil_append,List.append_nil,Bool.and_true,Bool.true_and,Bool.not_true,Bool.not_false,Bool.and_self,if_true,if_false,reduceIte,Nat.reduceAdd,Nat.reduceLeDiff,Nat.reduceEqDiff,Sl.t,Val.c,Slot.c,Tpl.c,Fact.c,Bind.c,Node.c,Test.c,STest.c,Pat.c,intC,and_self,true_and,and_true,zGP,zJc,zEK,binop,zF,zG,zE,zD,zI,zB,zO,zL,zN,zIT];exact rfl))))
 refine zGE (v:=true) (by(simp only[zM,get,lit,lit1,Nat.beq,vI,if_true])) (fun hv=>?_) (fun hv=>?_)
 ·repeat (first|(with_reducible first|apply uX|apply jN|apply zAy|apply zAC|apply uF|apply jI|apply kK|apply jP|apply uD|apply zAz)|(refine zAB (by kernel_rfl) ?_)|(with_reducible first|apply jJ|apply jL|apply kH|apply jO|apply jK|apply zCU|apply zBn|apply zBq|apply zCr|apply zEk|apply zCt|apply zBu)|((with_reducible apply zFb);(focus kernel_rfl);(focus (simp only[beq_true,beq_false,Bool.true_beq,Bool.false_beq,decide_true,decide_false,Int.ofNat_eq_natCast,List.length_map,List.getElem?_map,Option.map_some,xH,wanted,exec1,zAq,uY,xBox,qS,wB,xLen,uQ,wK,xM,uZ,cellsOf,zM,opds,qA,get,putT,ret,retO,lit,lit1,patch,put1,load,loadCells,cut,zW,mkAgg,trees,nth,lenOf,indexAddr,storeAt,upd,splice,wO,wU,zAm,uM,uL,kA,kB,kE,kM,kN,zAf,convert,zAQ,zA0,zAP,zAI,zB4,zA1,zAU,zAS,zAK,zAN,zAX,kO, qU,qZ,qY,qW,kC,kD,qV,qX,uN,qL,Nat.beq,beq_self_eq_true,Nat.zero_add,Nat.add_zero,List.toList_toArray,List.map_cons,List.map_nil,List.length_cons,List.length_nil,List.take,List.drop,List.all_cons,List.all_nil,List.cons_append,List.nil_append,List.append_nil,Bool.and_true,Bool.true_and,Bool.not_true,Bool.not_false,Bool.and_self,if_true,if_false,reduceIte,Nat.reduceAdd,Nat.reduceLeDiff,Nat.reduceEqDiff,Sl.t,Val.c,Slot.c,Tpl.c,Fact.c,Bind.c,Node.c,Test.c,STest.c,Pat.c,intC,and_self,true_and,and_true,zF,zG,zE,zD,zI,zB,zO,zL,zN,zIT];exact rfl))))
  exact⟨by kernel_rfl,.t (.sl true true []),by kernel_rfl,by kernel_rfl⟩
 cases hv
def zUu(cl:Bool)(l:List Node)(hl:l.length<4294967296):Om CC 84 [.t (.sl false cl (l.map Node.c))] []=some (.val (.hs 0 0),[.arr 8 0 false (l.map Node.c)]):=by
 refine zK zUC rfl ?_
 (have F_:=xa0;show W CC 0 8 (zA 84) _ ⟨[(0,_)],[]⟩ _)
 repeat (first|(with_reducible first|apply uX|apply jN|apply zAy|apply zAC|apply uF|apply jI|apply kK|apply jP|apply uD|apply zAz)|(refine zAB (by kernel_rfl) ?_)|(with_reducible first|apply jJ|apply jL|apply kH|apply jO|apply jK|apply zCU|apply zBn|apply zBq|apply zCr|apply zEk|apply zCt|apply zBu)|((with_reducible apply zFb);(focus kernel_rfl);(focus (simp only[beq_true,beq_false,Bool.true_beq,Bool.false_beq,decide_true,decide_false,Int.ofNat_eq_natCast,List.length_map,List.getElem?_map,Option.map_some,xH,wanted,exec1,zAq,uY,xBox,qS,wB,xLen,uQ,wK,xM,uZ,cellsOf,zM,opds,qA,get,putT,ret,retO,lit,lit1,patch,put1,load,loadCells,cut,zW,mkAgg,trees,nth,lenOf,indexAddr,storeAt,upd,splice,wO,wU,zAm,uM,uL,kA,kB,kE,kM,kN,zAf,convert,zAQ,zA0,zAP,zAI,zB4,zA1,zAU,zAS,zAK,zAN,zAX,kO, qU,qZ,qY,qW,kC,kD,qV,qX,uN,qL,Nat.beq,beq_self_eq_true,Nat.zero_add,Nat.add_zero,List.toList_toArray,List.map_cons,List.map_nil,List.length_cons,List.length_nil,List.take,List.drop,List.all_cons,List.all_nil,List.cons_append,List.nil_append,List.append_nil,Bool.and_true,Bool.true_and,Bool.not_true,Bool.not_false,Bool.and_self,if_true,if_false,reduceIte,Nat.reduceAdd,Nat.reduceLeDiff,Nat.reduceEqDiff,Sl.t,Val.c,Slot.c,Tpl.c,Fact.c,Bind.c,Node.c,Test.c,STest.c,Pat.c,intC,and_self,true_and,and_true,zGP,zJc,zEK,binop,zF,zG,zE,zD,zI,zB,zO,zL,zN,zIT];exact rfl))))
 refine zGE (v:=false) (by(simp only[zM,get,lit,lit1,Nat.beq,vI,if_true])) (fun hv=>?_) (fun hv=>?_)
 ·cases hv
 have hle:lens 8 (l.map Node.c)=true:=vQ Node.c 8 (fun a=>rfl) l
 repeat (first|(with_reducible first|apply uX|apply jN|apply zAy|apply zAC|apply uF|apply jI|apply kK|apply jP|apply uD|apply zAz)|(refine zAB (by kernel_rfl) ?_)|(with_reducible first|apply jJ|apply jL|apply kH|apply jO|apply jK|apply zCU|apply zBn|apply zBq|apply zCr|apply zEk|apply zCt|apply zBu)|((with_reducible apply zFb);(focus kernel_rfl);(focus (simp only[beq_true,beq_false,Bool.true_beq,Bool.false_beq,decide_true,decide_false,Int.ofNat_eq_natCast,List.length_map,List.getElem?_map,Option.map_some,xH,wanted,exec1,zAq,uY,xBox,qS,wB,xLen,uQ,wK,xM,uZ,cellsOf,zM,opds,qA,get,putT,ret,retO,lit,lit1,patch,put1,load,loadCells,cut,zW,mkAgg,trees,nth,lenOf,indexAddr,storeAt,upd,splice,wO,wU,zAm,uM,uL,kA,kB,kE,kM,kN,zAf,convert,zAQ,zA0,zAP,zAI,zB4,zA1,zAU,zAS,zAK,zAN,zAX,kO, qU,qZ,qY,qW,kC,kD,qV,qX,uN,qL,Nat.beq,beq_self_eq_true,Nat.zero_add,Nat.add_zero,List.toList_toArray,List.map_cons,List.map_nil,List.length_cons,List.length_nil,List.take,List.drop,List.all_cons,List.all_nil,List.cons_append,List.nil_append,List.append_nil,Bool.and_true,Bool.true_and,Bool.not_true,Bool.not_false,Bool.and_self,if_true,if_false,reduceIte,Nat.reduceAdd,Nat.reduceLeDiff,Nat.reduceEqDiff,Sl.t,Val.c,Slot.c,Tpl.c,Fact.c,Bind.c,Node.c,Test.c,STest.c,Pat.c,intC,and_self,true_and,and_true,wI,yV,xV,xV.go,zAp,qG,append,added,elems,hle,hl,List.replicate,List.append_nil,List.nil_append,Nat.not_lt_zero,Nat.zero_mul,decide_true,zF,zG,zE,zD,zI,zB,zO,zL,zN,zIT];exact rfl))))
 exact⟨by kernel_rfl,.hs 0 1,by kernel_rfl,by kernel_rfl⟩
def zGw(op:Int)(l:List Node):List Node:=l++[⟨3,Zero,[],⟨true,true,[]⟩,0,0⟩,⟨op,Zero,[],⟨false,false,[(l.length:Int),(l.length:Int) - 1]⟩,0,0⟩]
def zWX (op:Int) (nl cl:Bool) (l:List Node) (ha:nl=true→l=[]) (hl:l.length<4294967000) :
  Om CC 53 [.t (.int .u8 op),.t (.sl nl cl (l.map Node.c))] []=some (.val (.t (.sl false false ((zGw op l).map Node.c))),[]):=by
 refine zK yC5 rfl ?_
 (have F_:=c5 zF zG zE zD (c5 zI zB zO zL (c3 zN yG6 yHt));show W CC 0 23 (zA 53) _ ⟨[(0,_),(1,_)],[]⟩ _)
 have hw:IntKind.i64.wrap ((l.length:Int) - 1)=(l.length:Int) - 1:=by rw[wrap64]<;>omega
 have hle:lens 8 (l.map Node.c)=true:=vQ Node.c 8 (fun a=>rfl) l;have hs1:decide (l.length+1<4294967296)=true:=by simp;omega
 have hs2:decide (l.length+1+1<4294967296)=true:=by simp;omega
 have hh:kP 8 (l.map Node.c)=true:=by cases l<;>rfl
 cases nl with
 |true =>
  obtain rfl:=ha rfl;have hc:=zRG cl [];have hw0:IntKind.i64.wrap (((0:Nat):Int) - 1)=((0:Nat):Int) - 1:=by decide
  clear hle hs1 hs2 hh ha hl
  (refine gA ?_)
  (refine aK ?_ ?_)
  ·rfl
  rfl
 |false =>
  have hc:=zUu cl l (by omega);clear ha hl
  (have x0_:=@Nat.sub_self;have x1_:=@List.length_append.{0};(refine gA ?_);all_goals clear x0_ x1_)
  (refine aK ?_ ?_)
  ·simp only[zGw,List.map_append,List.append_assoc];rfl
  rfl
def wW(x:Test):List (Int×Sl Node) :=
 if x.op=7 then [(if x.low then 11 else 12,x.a),(if x.high then 9 else 10,x.b)] else match zBi x.op with
  |some s=>[(s,x.a)]
  |none=>[]
def opsT(l:List (Int×Sl Node)):Tree:=match l with
 |[]=>.sl true true []
 |l=>.sl false false (l.map fun p=>[.int .u8 p.1])
def zAu(l:List (Int×Sl Node)):Tree:=match l with
 |[]=>.sl true true []
 |l=>.sl false false (l.map fun p=>[p.2.t Node.c])
def zWJ(x:Test):Om CC 51 [.t (.agg x.c)] []=some (.val (.tup [.t (opsT (wW x)),.t (zAu (wW x))]),[]):=by
 refine zK yCa rfl ?_
 (have F_:=c5 zF zG zQ zE (c5 zD zI zB zO (c5 zL yL zN zOK (c5 zUU zAV zAR yGM (c5 zKE @sgn0 @sgn1 @sgn2 (c2 @sgn3 @sgn4)))));show W CC 0 39 (zA 51) _ ⟨[(0,_)],[]⟩ _)
 obtain⟨op,⟨anl,acl,al⟩,⟨bnl,bcl,bl⟩,low,high,kids,line,col⟩:=x;have hs:=zFB
 by_cases h7:op=7
 ·have e7:(op==7)=true:=by simp [h7]
  cases low<;>cases high
  all_goals (simp only[wW,h7,if_true,Bool.false_eq_true,if_false,opsT,zAu,List.map_cons,List.map_nil,Sl.t];clear h7)<;>(refine gA ?_)<;>refine aK ?_ ?_<;>(rfl)
 have e7:(op==7)=false:=by simpa using h7
 have w0:IntKind.i64.wrap (0+1)=1:=by decide
 have w1:IntKind.i64.wrap (1+1)=2:=by decide
 have w2:IntKind.i64.wrap (2+1)=3:=by decide
 have w3:IntKind.i64.wrap (3+1)=4:=by decide
 have w4:IntKind.i64.wrap (4+1)=5:=by decide
 have d0:decide ((0:Int)<5)=true:=by decide
 have d1:decide ((1:Int)<5)=true:=by decide
 have d2:decide ((2:Int)<5)=true:=by decide
 have d3:decide ((3:Int)<5)=true:=by decide
 have d4:decide ((4:Int)<5)=true:=by decide
 have d5:decide ((5:Int)<5)=false:=by decide
 by_cases h2:op=2
 ·have e2:((2:Int)==op)=true:=by simp [h2]
  have hp:wW ⟨op,⟨anl,acl,al⟩,⟨bnl,bcl,bl⟩,low,high,kids,line,col⟩=[(7,⟨anl,acl,al⟩)]:=by simp [wW,zBi,h2]
  rw[hp];simp only[opsT,zAu,List.map_cons,List.map_nil,Sl.t];clear hp h7 h2
  (repeat' first|refine gA ?_|refine gT ?_ ?_<;>intro hv|refine aI ?_|fail)
  (refine aK ?_ ?_)
  ·rfl
  rfl
 have e2:((2:Int)==op)=false:=by simp;omega
 by_cases h3:op=3
 ·have e3:((3:Int)==op)=true:=by simp [h3]
  have hp:wW ⟨op,⟨anl,acl,al⟩,⟨bnl,bcl,bl⟩,low,high,kids,line,col⟩=[(9,⟨anl,acl,al⟩)]:=by simp [wW,zBi,h3]
  rw[hp];simp only[opsT,zAu,List.map_cons,List.map_nil,Sl.t];clear hp h7 h2 h3
  (repeat' first|refine gA ?_|refine gT ?_ ?_<;>intro hv|refine aI ?_|fail)
  (refine aK ?_ ?_)
  ·rfl
  rfl
 have e3:((3:Int)==op)=false:=by simp;omega
 by_cases h4:op=4
 ·have e4:((4:Int)==op)=true:=by simp [h4]
  have hp:wW ⟨op,⟨anl,acl,al⟩,⟨bnl,bcl,bl⟩,low,high,kids,line,col⟩=[(10,⟨anl,acl,al⟩)]:=by simp [wW,zBi,h4]
  rw[hp];simp only[opsT,zAu,List.map_cons,List.map_nil,Sl.t];clear hp h7 h2 h3 h4
  (repeat' first|refine gA ?_|refine gT ?_ ?_<;>intro hv|refine aI ?_|fail)
  (refine aK ?_ ?_)
  ·rfl
  rfl
 have e4:((4:Int)==op)=false:=by simp;omega
 by_cases h5:op=5
 ·have e5:((5:Int)==op)=true:=by simp [h5]
  have hp:wW ⟨op,⟨anl,acl,al⟩,⟨bnl,bcl,bl⟩,low,high,kids,line,col⟩=[(11,⟨anl,acl,al⟩)]:=by simp [wW,zBi,h5]
  rw[hp];simp only[opsT,zAu,List.map_cons,List.map_nil,Sl.t];clear hp h7 h2 h3 h4 h5
  (repeat' first|refine gA ?_|refine gT ?_ ?_<;>intro hv|refine aI ?_|fail)
  (refine aK ?_ ?_)
  ·rfl
  rfl
 have e5:((5:Int)==op)=false:=by simp;omega
 by_cases h6:op=6
 ·have e6:((6:Int)==op)=true:=by simp [h6]
  have hp:wW ⟨op,⟨anl,acl,al⟩,⟨bnl,bcl,bl⟩,low,high,kids,line,col⟩=[(12,⟨anl,acl,al⟩)]:=by simp [wW,zBi,h6]
  rw[hp];simp only[opsT,zAu,List.map_cons,List.map_nil,Sl.t];clear hp h7 h2 h3 h4 h5 h6
  (repeat' first|refine gA ?_|refine gT ?_ ?_<;>intro hv|refine aI ?_|fail)
  (refine aK ?_ ?_)
  ·rfl
  rfl
 have e6:((6:Int)==op)=false:=by simp;omega
 have hp:wW ⟨op,⟨anl,acl,al⟩,⟨bnl,bcl,bl⟩,low,high,kids,line,col⟩=[]:=by simp [wW,zBi,h7,h2,h3,h4,h5,h6]
 rw[hp];simp only[opsT,zAu];clear hp h7 h2 h3 h4 h5 h6
 (repeat' first|refine gA ?_|refine gT ?_ ?_<;>intro hv|refine aI ?_|fail)
 (refine aK ?_ ?_)
 ·rfl
 rfl
def vA(op:Int)(l:List SNode):List SNode:=l++[⟨3,Zero,[],[]⟩,⟨op,Zero,[],[(l.length:Int),(l.length:Int) - 1]⟩]
def zSP(op:Int)(l:List Node):(zGw op l).map Node.s=vA op (l.map Node.s):=by
 simp [zGw,vA,Node.s]
def zNk(x:Test):zFG x.s=(wW x).map fun p=>(p.1,p.2.l.map Node.s):=by
 unfold zFG wW Test.s;dsimp only;split
 ·rfl
 cases zBi x.op<;>rfl
noncomputable def zNE(x:STst)(self:Val)(vars:List Bind):List Ans:=(zFG x).map fun p=>wL (vA p.1 p.2) self vars
noncomputable def zBe(op:Int)(kl:List Ans):Ans :=
 if op=1 then ⟨⟨4,1,[]⟩,0⟩ else if op=8 then NotU (getA kl 0) else if op=9 then (kl.drop 1).foldl uW (getA kl 0) else ⟨Zero,2⟩
noncomputable def kZ(x:STst)(al:List Ans)(self:Val)(vars:List Bind):Ans :=
 match zNE x self vars with
 |[a]=>a
 |[a,b]=>kT a b
 |_=>zBe x.op (zAl al x.kids)
noncomputable def zAJ(ts:List STst)(self:Val)(vars:List Bind):Nat→List Ans
 |0=>[]
 |i+1=>zAJ ts self vars i++[match ts[i]? with
  |some x=>kZ x (zAJ ts self vars i) self vars
  |none=>AZero]
noncomputable def uT(ts:List STst)(self:Val)(vars:List Bind):Ans:=zGb (zAJ ts self vars ts.length)
def zHE(ts:List STst)(self:Val)(vars:List Bind):∀i,(zAJ ts self vars i).length=i
 |0=>rfl
 |i+1=>by simp [zAJ,zHE ts self vars i]
noncomputable def SemA(self:Val)(vars:List Bind):Sem:=⟨fun op l=>wL (vA op l) self vars,kT,uW,NotU⟩
def zUs(x:STst)(al:List Ans)(self:Val)(vars:List Bind):kZ x al self vars=zFQ (SemA self vars) x al:=by
 unfold kZ zFQ zNE SemA;dsimp only;cases (zFG x).map fun p=>wL (vA p.1 p.2) self vars with
 |nil=>rfl
 |cons a l=>cases l with
  |nil=>rfl
  |cons b l=>cases l<;>rfl
def zMJ(ts:List STst)(self:Val)(vars:List Bind):∀i,zAJ ts self vars i=zAD (SemA self vars) ts i
 |0=>rfl
 |i+1=>by
  rw[zAJ,zAD,zMJ ts self vars i];cases ts[i]? with
  |none=>rfl
  |some x=>simp only[zUs]
def zLb(ts:List STst)(self:Val)(vars:List Bind):uT ts self vars=zOR (SemA self vars) ts:=by
 unfold uT zOR;rw[zMJ]
structure XOK (T:Sl Node):Prop where
 nil:T.nl=true→T.l=[]
 len:T.l.length<4294967000
 kids:∀x ∈ T.l,x.kids.l.length<4294967295
 val:∀x ∈ T.l,VOK x.v
structure TOK (x:Test):Prop where
 a:XOK x.a
 b:XOK x.b
 kids:x.kids.l.length<4294967295
def zQ4 (s:Int) (T:Sl Node) (self:Val) (vnl vcl:Bool) (vars:List Bind) (hT:XOK T) (hs:VOK self) (hv:∀b ∈ vars,VOK b.v) (hvl:vars.length<9223372036854775808) :
  ∃L:List (List Tree),Om CC 53 [.t (.int .u8 s),.t (.sl T.nl T.cl (T.l.map Node.c))] []=some (.val (.t (.sl false false L)),[]) ∧
   Om CC 52 [.t (.sl false false L),.t (.agg [.int .u8 self.k,.int .i64 self.n,.str self.s]),.t (.sl vnl vcl (vars.map Bind.c))] [] =
    some (.val (.tup [.t (.agg [.int .u8 (wL (vA s (T.l.map Node.s)) self vars).v.k,.int .i64 (wL (vA s (T.l.map Node.s)) self vars).v.n,.str (wL (vA s (T.l.map Node.s)) self vars).v.s]),.t (.int .i64 (wL (vA s (T.l.map Node.s)) self vars).e)]),[]):=by
 refine⟨_,zWX s T.nl T.cl T.l hT.nil hT.len,?_⟩;have h:=zVD ⟨false,false,zGw s T.l⟩ self vnl vcl vars ?_ ?_ hvl ?_ hs hv
 ·rw[zSP] at h;exact h
 ·have:=hT.len;simp [zGw];omega
 ·intro x hx;rcases List.mem_append.1 hx with h|h
  ·exact hT.kids x h
  simp at h;rcases h with rfl|rfl<;>simp
 intro x hx;rcases List.mem_append.1 hx with h|h
 ·exact hT.val x h
 simp at h;rcases h with rfl|rfl<;>exact yR
def zN2(s:Int)(T:Sl Node)(self:Val)(vars:List Bind)(hT:XOK T)(hs:VOK self)(hv:∀b ∈ vars,VOK b.v):AOK (wL (vA s (T.l.map Node.s)) self vars):=by
 unfold wL;refine yAo _ (zGz _ _ _ (fun x hx=>?_) hs hv _);rcases List.mem_append.1 hx with h|h
 ·obtain⟨y,hy,rfl⟩:=List.mem_map.1 h;exact hT.val y hy
 simp at h;rcases h with rfl|rfl<;>exact yR
def zJz(x:Test):wW x=[]∨(∃s,wW x=[(s,x.a)])∨∃s t,wW x=[(s,x.a),(t,x.b)]:=by
 unfold wW;split
 ·exact .inr (.inr ⟨_,_,rfl⟩)
 split
 ·exact .inr (.inl ⟨_,rfl⟩)
 exact .inl rfl
def yEB(al:List Ans)(h:∀a ∈ al,AOK a)(k:Int):AOK (kidT al k):=by
 unfold kidT;split
 ·exact yR
 exact zBP h _
def zQE(al:List Ans)(h:∀a ∈ al,AOK a)(ks:List Int):∀a ∈ zAl al ks,AOK a:=by
 unfold zAl;split
 ·intro a ha;rw[List.mem_singleton.1 ha];exact yR
 intro a ha;obtain⟨k,_,rfl⟩:=List.mem_map.1 ha;exact yEB al h k
def zMf:∀(l:List Ans) (a:Ans),AOK a→AOK (l.foldl uW a)
 |[],a,h=>h
 |b::l,a,_=>zMf l _ (zVf a b)
def zPQ (x:Test) (al:List Ans) (self:Val) (vars:List Bind) :
  (wW x=[]→kZ x.s al self vars=zBe x.op (zAl al x.kids.l))∧(∀s,wW x=[(s,x.a)]→kZ x.s al self vars=wL (vA s (x.a.l.map Node.s)) self vars) ∧
   (∀s t,wW x=[(s,x.a),(t,x.b)]→kZ x.s al self vars=kT (wL (vA s (x.a.l.map Node.s)) self vars) (wL (vA t (x.b.l.map Node.s)) self vars)):=by
 refine⟨fun h=>?_,fun s h=>?_,fun s t h=>?_⟩<;>(unfold kZ zNE;rw[zNk,h];rfl)
def zYI(x:Test)(al:List Ans)(self:Val)(vars:List Bind)(hx:TOK x)(h:∀a ∈ al,AOK a)(hs:VOK self)(hv:∀b ∈ vars,VOK b.v):AOK (kZ x.s al self vars):=by
 have hrest:AOK (zBe x.op (zAl al x.kids.l)):=by
  unfold zBe;have hk:=zQE al h x.kids.l;split
  ·exact⟨zYV.2,by simp⟩
  split
  ·exact yCK _ (zBP hk 0)
  split
  ·exact zMf _ _ (zBP hk 0)
  exact yR
 unfold kZ zNE;rw[zNk];rcases zJz x with h1|⟨s,h1⟩|⟨s,t,h1⟩
 ·rw[h1];exact hrest
 ·rw[h1];exact zN2 s x.a self vars hx.a hs hv
 rw[h1];exact zTX _ _
end Go.Ab
