/- Lemmas. -/
import Derived.Test.YtdbfacakphncfaaGreatDoorG20
import Derived.Test.YtdbfacakphncfaaGreatDoorG16
set_option maxRecDepth 1000000
set_option maxHeartbeats 40000000
set_option linter.all false
namespace Go.Ab
open Go.Proofs
attribute [local irreducible] W RW RR
def jK(a:Ans):Bool:=(a.e==0)&&((a.v.k==4)&&(a.v.n==1))
def zUd(a:Ans):Om CC 23 [.t (.agg [.int .u8 a.v.k,.int .i64 a.v.n,.str a.v.s]),.t (.int .i64 a.e)] []=some (.val (.t (.bool (jK a))),[]):=by
 refine zL yBT rfl ?_
 (have F_:=c5 zF zE zC zB (c2 zR yIs);show W CC 0 17 (zA 23) _ ⟨[(0,_),(1,_)],[]⟩ _)
 unfold jK;cases h1:a.e==0<;>cases h2:a.v.k==4<;>cases h3:a.v.n==1
 all_goals (refine gA ?_)<;>refine aK ?_ ?_<;>(rfl)
def xaZ:=c5 zF zE zC zB (c3 zR zEb zSb)
def zHB(a:Ans):∃x:Ans,Om CC 86 [.t (.agg [.int .u8 a.v.k,.int .i64 a.v.n,.str a.v.s,.int .i64 a.e])] []=some (.val (.t (.agg [.int .u8 x.v.k,.int .i64 x.v.n,.str x.v.s,.int .i64 x.e])),[])∧(AOK a→AOK x):=by
 refine zJ zOJ rfl ?_
 (have F_:=xaZ;show W CC 0 20 (zA 86) _ ⟨[(0,_)],[]⟩ _)
 obtain⟨⟨k,n,s⟩,e⟩:=a
 (repeat' first|refine gA ?_|refine gT ?_ ?_<;>intro hv|fail)
 all_goals refine aJ ?_<;>(first|exact⟨⟨⟨k,n,s⟩,e⟩,⟨rfl,rfl⟩,fun h=>h⟩|exact⟨⟨Zero,8⟩,⟨rfl,rfl⟩,fun _=>yX⟩)
noncomputable def zBM(a:Ans):Ans:=(zHB a).choose
def zBt(k n:Int)(s:List Nat)(e:Int):Om CC 86 [.t (.agg [.int .u8 k,.int .i64 n,.str s,.int .i64 e])] []=some (.val (.t (.agg [.int .u8 (zBM ⟨⟨k,n,s⟩,e⟩).v.k,.int .i64 (zBM ⟨⟨k,n,s⟩,e⟩).v.n,.str (zBM ⟨⟨k,n,s⟩,e⟩).v.s,.int .i64 (zBM ⟨⟨k,n,s⟩,e⟩).e])),[]):=(zHB ⟨⟨k,n,s⟩,e⟩).choose_spec.1
def zKF(a:Ans):AOK a→AOK (zBM a):=(zHB a).choose_spec.2
def zKG(a:Ans):∃x:Ans,Om CC 43 [.t (.agg [.int .u8 a.v.k,.int .i64 a.v.n,.str a.v.s,.int .i64 a.e])] []=some (.val (.t (.agg [.int .u8 x.v.k,.int .i64 x.v.n,.str x.v.s,.int .i64 x.e])),[])∧(AOK a→AOK x):=by
 refine zJ zPb rfl ?_
 (have F_:=c5 zF zE zC zB (c5 zR zEb zR0 zMA (c2 zOk @zGI));show W CC 0 13 (zA 43) _ ⟨[(0,_)],[]⟩ _)
 obtain⟨⟨k,n,s⟩,e⟩:=a;have ht:=zBt k n s e;have hp:=zKF ⟨⟨k,n,s⟩,e⟩;have pn:=zGT (zBM ⟨⟨k,n,s⟩,e⟩).v;generalize zBM ⟨⟨k,n,s⟩,e⟩=t at ht hp pn;have ho:Hid _:=⟨hp⟩
 have pn2:Hid _:=⟨pn⟩
 clear hp pn
 (repeat' first|refine gA ?_|refine gT ?_ ?_<;>intro hv|fail)
 all_goals refine aJ ?_<;>(first|exact⟨t,⟨rfl,rfl⟩,ho.h⟩|exact⟨⟨NotV t.v,t.e⟩,⟨rfl,rfl⟩,fun _=>pn2.h⟩|exact⟨⟨NotV t.v,0⟩,⟨rfl,rfl⟩,fun _=>pn2.h⟩)
noncomputable def NotU(a:Ans):Ans:=(zKG a).choose
def zJt(k n:Int)(s:List Nat)(e:Int):Om CC 43 [.t (.agg [.int .u8 k,.int .i64 n,.str s,.int .i64 e])] []=some (.val (.t (.agg [.int .u8 (NotU ⟨⟨k,n,s⟩,e⟩).v.k,.int .i64 (NotU ⟨⟨k,n,s⟩,e⟩).v.n,.str (NotU ⟨⟨k,n,s⟩,e⟩).v.s,.int .i64 (NotU ⟨⟨k,n,s⟩,e⟩).e])),[]):=(zKG ⟨⟨k,n,s⟩,e⟩).choose_spec.1
def yDa(a:Ans):AOK a→AOK (NotU a):=(zKG a).choose_spec.2
def zCZ (f:Nat) (hb:yY Tryz.prog f=true) (hD:∀x,CC.prim f x=none) (F:Val→Val→Val) (hF:∀a b,VOK a→VOK b→Om CC f [.t (.sl false false [[.int .u8 a.k,.int .i64 a.n,.str a.s],[.int .u8 b.k,.int .i64 b.n,.str b.s]])] []=some (.val (.t (.agg [.int .u8 (F a b).k,.int .i64 (F a b).n,.str (F a b).s])),[]))
  (hm:∀a b,VOK a→VOK b→VOK (F a b)) (a b:Ans) (ends:Bool) (ha:AOK a) (hn:AOK b) :
  ∃x:Ans,Om CC 41 [.t (.agg [.int .u8 a.v.k,.int .i64 a.v.n,.str a.v.s,.int .i64 a.e]),.t (.agg [.int .u8 b.v.k,.int .i64 b.v.n,.str b.v.s,.int .i64 b.e]),.t (.bool ends),.t (.fn f)] []=some (.val (.t (.agg [.int .u8 x.v.k,.int .i64 x.v.n,.str x.v.s,.int .i64 x.e])),[])∧AOK x:=by
 refine zJ zVV rfl ?_
 (have F_:=c5 zF zP zE zC (c5 zB zR zEb zHX (c5 xW zXV zMA zEa (c2 @qD @zAW)));show W CC 0 38 (zA 41) _ ⟨[(0,_),(1,_),(2,_),(3,_)],[]⟩ _)
 obtain⟨⟨k,n,s⟩,e⟩:=a;obtain⟨⟨k',n',s'⟩,e'⟩:=b;have ht:=zBt k n s e;have hq:=zBt k' n' s' e';have hp:=zKF ⟨⟨k,n,s⟩,e⟩ ha;have he:=zKF ⟨⟨k',n',s'⟩,e'⟩ hn;generalize zBM ⟨⟨k,n,s⟩,e⟩=t at ht hp;generalize zBM ⟨⟨k',n',s'⟩,e'⟩=u at hq he;have hf:=hF t.v u.v hp he;have hu:=hm t.v u.v hp he;clear hF hm ha hn;obtain⟨⟨tk,tn,ts⟩,te⟩:=t;obtain⟨⟨uk,un,us⟩,ue⟩:=u
 (repeat' first|refine gA ?_|refine gT ?_ ?_<;>intro hv|fail)
 all_goals refine aJ ?_<;>(first|exact⟨⟨⟨tk,tn,ts⟩,te⟩,⟨rfl,rfl⟩,hp⟩|exact⟨⟨⟨uk,un,us⟩,ue⟩,⟨rfl,rfl⟩,he⟩|exact⟨⟨F ⟨tk,tn,ts⟩ ⟨uk,un,us⟩,0⟩,⟨rfl,rfl⟩,hu⟩)
open Classical in
noncomputable def jP(a b:Ans):Ans:=if h:AOK a∧AOK b then (zCZ 42 zJh (fun x=>zX _ x (by decide)) All2 zFi zMd a b false h.1 h.2).choose else AZero
def zHp(a b:Ans)(ha:AOK a)(hb:AOK b):Om CC 41 [.t (.agg [.int .u8 a.v.k,.int .i64 a.v.n,.str a.v.s,.int .i64 a.e]),.t (.agg [.int .u8 b.v.k,.int .i64 b.v.n,.str b.v.s,.int .i64 b.e]),.t (.bool false),.t (.fn 42)] []=some (.val (.t (.agg [.int .u8 (jP a b).v.k,.int .i64 (jP a b).v.n,.str (jP a b).v.s,.int .i64 (jP a b).e])),[]):=by
 unfold jP;rw[dif_pos ⟨ha,hb⟩];exact(zCZ 42 zJh (fun x=>zX _ x (by decide)) All2 zFi zMd a b false ha hb).choose_spec.1
def zUZ(a b:Ans):AOK (jP a b):=by
 unfold jP;split
 ·rename_i h;exact(zCZ 42 zJh (fun x=>zX _ x (by decide)) All2 zFi zMd a b false h.1 h.2).choose_spec.2
 exact yX
open Classical in
noncomputable def uL(a b:Ans):Ans:=if h:AOK a∧AOK b then (zCZ 44 zLy (fun x=>zX _ x (by decide)) Any2 zFd zK3 a b true h.1 h.2).choose else AZero
def zMs(a b:Ans)(ha:AOK a)(hb:AOK b):Om CC 41 [.t (.agg [.int .u8 a.v.k,.int .i64 a.v.n,.str a.v.s,.int .i64 a.e]),.t (.agg [.int .u8 b.v.k,.int .i64 b.v.n,.str b.v.s,.int .i64 b.e]),.t (.bool true),.t (.fn 44)] []=some (.val (.t (.agg [.int .u8 (uL a b).v.k,.int .i64 (uL a b).v.n,.str (uL a b).v.s,.int .i64 (uL a b).e])),[]):=by
 unfold uL;rw[dif_pos ⟨ha,hb⟩];exact(zCZ 44 zLy (fun x=>zX _ x (by decide)) Any2 zFd zK3 a b true ha hb).choose_spec.1
def zUy(a b:Ans):AOK (uL a b):=by
 unfold uL;split
 ·rename_i h;exact(zCZ 44 zLy (fun x=>zX _ x (by decide)) Any2 zFd zK3 a b true h.1 h.2).choose_spec.2
 exact yX
def xa0:=c5 zF zG zE zC (c5 zB zO zK zM (c2 zI zI5))
def zSD(cl:Bool)(es:List (List Tree)):Om CC 85 [.t (.sl true cl es)] []=some (.val (.t (.sl true true [])),[]):=by
 refine zL zVk rfl ?_
 (have F_:=xa0;show W CC 0 8 (zA 85) _ ⟨[(0,_)],[]⟩ _)
 repeat (first|(with_reducible first|apply zBd|apply zCR|apply zDS|apply zDB|apply zAx|apply zCS|apply zB5|apply zCU|apply zAK|apply zDN)|(refine zDW (by kernel_rfl) ?_)|(with_reducible first|apply zCT|apply zCX|apply zBW|apply zCE|apply zCF|apply zFJ|apply zFa|apply zFe|apply zGE|apply zJB|apply zGO|apply zFg)|((with_reducible apply zLM);(focus kernel_rfl);(focus (simp only[beq_true,beq_false,Bool.true_beq,Bool.false_beq,decide_true,decide_false,Int.ofNat_eq_natCast,List.length_map,List.getElem?_map,Option.map_some,xR,wanted,exec1,zBQ,jB,xBox,jM,vH,xLen,kD,uC,wG,jH,cellsOf,zN,opds,kI,get,putT,ret,retO,lit,lit1,patch,put1,load,loadCells,cut,yC,mkAgg,trees,nth,lenOf,indexAddr,storeAt,upd,splice,vZ,uT,zBe,jF,kY,zAH,zAs,zAq,qT,qO,kW,convert,zAu,zAw,zAo,zAn,zBv,zAN,zAC,zAM,zAk,zAl,zAD,qQ, zAJ,zAA,zAy,zAE,zAF,zAt,zAm,zAI,jD,jO,Nat.beq,beq_self_eq_true,Nat.zero_add,Nat.add_zero,List.toList_toArray,List.map_cons,List.map_nil,List.length_cons,List.length_nil,List.take,List.drop,List.all_cons,List.all_nil,List.cons_append,List.nil_append,List.append_nil,Bool.and_true,Bool.true_and,Bool.not_true,Bool.not_false,Bool.and_self,if_true,if_false,reduceIte,Nat.reduceAdd,Nat.reduceLeDiff,Nat.reduceEqDiff,Sl.t,Val.c,Slot.c,Tpl.c,Fact.c,Bind.c,Node.c,Test.c,STest.c,Pat.c,intC,and_self,true_and,and_true,zMa,zOn,zGD,binop,zF,zG,zE,zC,zB,zO,zK,zM,zI,zI5];exact rfl))))
 refine zLO (v:=true) (by(simp only[zN,get,lit,lit1,Nat.beq,uG,if_true])) (fun hv=>?_) (fun hv=>?_)
 ·repeat (first|(with_reducible first|apply zBd|apply zCR|apply zDS|apply zDB|apply zAx|apply zCS|apply zB5|apply zCU|apply zAK|apply zDN)|(refine zDW (by kernel_rfl) ?_)|(with_reducible first|apply zCT|apply zCX|apply zBW|apply zCE|apply zCF|apply zFJ|apply zFa|apply zFe|apply zGE|apply zJB|apply zGO|apply zFg)|((with_reducible apply zLM);(focus kernel_rfl);(focus (simp only[beq_true,beq_false,Bool.true_beq,Bool.false_beq,decide_true,decide_false,Int.ofNat_eq_natCast,List.length_map,List.getElem?_map,Option.map_some,xR,wanted,exec1,zBQ,jB,xBox,jM,vH,xLen,kD,uC,wG,jH,cellsOf,zN,opds,kI,get,putT,ret,retO,lit,lit1,patch,put1,load,loadCells,cut,yC,mkAgg,trees,nth,lenOf,indexAddr,storeAt,upd,splice,vZ,uT,zBe,jF,kY,zAH,zAs,zAq,qT,qO,kW,convert,zAu,zAw,zAo,zAn,zBv,zAN,zAC,zAM,zAk,zAl,zAD,qQ, zAJ,zAA,zAy,zAE,zAF,zAt,zAm,zAI,jD,jO,Nat.beq,beq_self_eq_true,Nat.zero_add,Nat.add_zero,List.toList_toArray,List.map_cons,List.map_nil,List.length_cons,List.length_nil,List.take,List.drop,List.all_cons,List.all_nil,List.cons_append,List.nil_append,List.append_nil,Bool.and_true,Bool.true_and,Bool.not_true,Bool.not_false,Bool.and_self,if_true,if_false,reduceIte,Nat.reduceAdd,Nat.reduceLeDiff,Nat.reduceEqDiff,Sl.t,Val.c,Slot.c,Tpl.c,Fact.c,Bind.c,Node.c,Test.c,STest.c,Pat.c,intC,and_self,true_and,and_true,zF,zG,zE,zC,zB,zO,zK,zM,zI,zI5];exact rfl))))
  exact⟨by kernel_rfl,.t (.sl true true []),by kernel_rfl,by kernel_rfl⟩
 cases hv
def zSO(cl:Bool)(l:List Node)(hl:l.length<4294967296):Om CC 85 [.t (.sl false cl (l.map Node.c))] []=some (.val (.hs 0 0),[.arr 8 0 false (l.map Node.c)]):=by
 refine zL zVk rfl ?_
 (have F_:=xa0;show W CC 0 8 (zA 85) _ ⟨[(0,_)],[]⟩ _)
 repeat (first|(with_reducible first|apply zBd|apply zCR|apply zDS|apply zDB|apply zAx|apply zCS|apply zB5|apply zCU|apply zAK|apply zDN)|(refine zDW (by kernel_rfl) ?_)|(with_reducible first|apply zCT|apply zCX|apply zBW|apply zCE|apply zCF|apply zFJ|apply zFa|apply zFe|apply zGE|apply zJB|apply zGO|apply zFg)|((with_reducible apply zLM);(focus kernel_rfl);(focus (simp only[beq_true,beq_false,Bool.true_beq,Bool.false_beq,decide_true,decide_false,Int.ofNat_eq_natCast,List.length_map,List.getElem?_map,Option.map_some,xR,wanted,exec1,zBQ,jB,xBox,jM,vH,xLen,kD,uC,wG,jH,cellsOf,zN,opds,kI,get,putT,ret,retO,lit,lit1,patch,put1,load,loadCells,cut,yC,mkAgg,trees,nth,lenOf,indexAddr,storeAt,upd,splice,vZ,uT,zBe,jF,kY,zAH,zAs,zAq,qT,qO,kW,convert,zAu,zAw,zAo,zAn,zBv,zAN,zAC,zAM,zAk,zAl,zAD,qQ, zAJ,zAA,zAy,zAE,zAF,zAt,zAm,zAI,jD,jO,Nat.beq,beq_self_eq_true,Nat.zero_add,Nat.add_zero,List.toList_toArray,List.map_cons,List.map_nil,List.length_cons,List.length_nil,List.take,List.drop,List.all_cons,List.all_nil,List.cons_append,List.nil_append,List.append_nil,Bool.and_true,Bool.true_and,Bool.not_true,Bool.not_false,Bool.and_self,if_true,if_false,reduceIte,Nat.reduceAdd,Nat.reduceLeDiff,Nat.reduceEqDiff,Sl.t,Val.c,Slot.c,Tpl.c,Fact.c,Bind.c,Node.c,Test.c,STest.c,Pat.c,intC,and_self,true_and,and_true,zMa,zOn,zGD,binop,zF,zG,zE,zC,zB,zO,zK,zM,zI,zI5];exact rfl))))
 refine zLO (v:=false) (by(simp only[zN,get,lit,lit1,Nat.beq,uG,if_true])) (fun hv=>?_) (fun hv=>?_)
 ·cases hv
 have hj:lens 8 (l.map Node.c)=true:=qM Node.c 8 (fun a=>rfl) l
 repeat (first|(with_reducible first|apply zBd|apply zCR|apply zDS|apply zDB|apply zAx|apply zCS|apply zB5|apply zCU|apply zAK|apply zDN)|(refine zDW (by kernel_rfl) ?_)|(with_reducible first|apply zCT|apply zCX|apply zBW|apply zCE|apply zCF|apply zFJ|apply zFa|apply zFe|apply zGE|apply zJB|apply zGO|apply zFg)|((with_reducible apply zLM);(focus kernel_rfl);(focus (simp only[beq_true,beq_false,Bool.true_beq,Bool.false_beq,decide_true,decide_false,Int.ofNat_eq_natCast,List.length_map,List.getElem?_map,Option.map_some,xR,wanted,exec1,zBQ,jB,xBox,jM,vH,xLen,kD,uC,wG,jH,cellsOf,zN,opds,kI,get,putT,ret,retO,lit,lit1,patch,put1,load,loadCells,cut,yC,mkAgg,trees,nth,lenOf,indexAddr,storeAt,upd,splice,vZ,uT,zBe,jF,kY,zAH,zAs,zAq,qT,qO,kW,convert,zAu,zAw,zAo,zAn,zBv,zAN,zAC,zAM,zAk,zAl,zAD,qQ, zAJ,zAA,zAy,zAE,zAF,zAt,zAm,zAI,jD,jO,Nat.beq,beq_self_eq_true,Nat.zero_add,Nat.add_zero,List.toList_toArray,List.map_cons,List.map_nil,List.length_cons,List.length_nil,List.take,List.drop,List.all_cons,List.all_nil,List.cons_append,List.nil_append,List.append_nil,Bool.and_true,Bool.true_and,Bool.not_true,Bool.not_false,Bool.and_self,if_true,if_false,reduceIte,Nat.reduceAdd,Nat.reduceLeDiff,Nat.reduceEqDiff,Sl.t,Val.c,Slot.c,Tpl.c,Fact.c,Bind.c,Node.c,Test.c,STest.c,Pat.c,intC,and_self,true_and,and_true,wU,xA,wI,wI.go,zAf,qJ,append,added,elems,hj,hl,List.replicate,List.append_nil,List.nil_append,Nat.not_lt_zero,Nat.zero_mul,decide_true,zF,zG,zE,zC,zB,zO,zK,zM,zI,zI5];exact rfl))))
 exact⟨by kernel_rfl,.hs 0 1,by kernel_rfl,by kernel_rfl⟩
def zGP(op:Int)(l:List Node):List Node:=l++[⟨3,Zero,[],⟨true,true,[]⟩,0,0⟩,⟨op,Zero,[],⟨false,false,[(l.length:Int),(l.length:Int) - 1]⟩,0,0⟩]
def zWB (op:Int) (nl cl:Bool) (l:List Node) (ha:nl=true→l=[]) (hl:l.length<4294967000) :
  Om CC 40 [.t (.int .u8 op),.t (.sl nl cl (l.map Node.c))] []=some (.val (.t (.sl false false ((zGP op l).map Node.c))),[]):=by
 refine zL yB1 rfl ?_
 (have F_:=c5 zF zG zE zC (c5 zB zO zK zM (c3 zI yHp yHE));show W CC 0 23 (zA 40) _ ⟨[(0,_),(1,_)],[]⟩ _)
 have hw:IntKind.i64.wrap ((l.length:Int) - 1)=(l.length:Int) - 1:=by rw[wrap64]<;>omega
 have hj:lens 8 (l.map Node.c)=true:=qM Node.c 8 (fun a=>rfl) l;have hz:decide (l.length+1<4294967296)=true:=by simp;omega
 have hA:decide (l.length+1+1<4294967296)=true:=by simp;omega
 have hh:jQ 8 (l.map Node.c)=true:=by cases l<;>rfl
 cases nl with
 |true =>
  obtain rfl:=ha rfl;have hc:=zSD cl [];have hE:IntKind.i64.wrap (((0:Nat):Int) - 1)=((0:Nat):Int) - 1:=by decide
  clear hj hz hA hh ha hl
  (refine gA ?_)
  (refine aK ?_ ?_)
  ·rfl
  rfl
 |false =>
  have hc:=zSO cl l (by omega);clear ha hl
  (have x0_:=@Nat.sub_self;have x1_:=@List.length_append.{0};(refine gA ?_);all_goals clear x0_ x1_)
  (refine aK ?_ ?_)
  ·simp only[zGP,List.map_append,List.append_assoc];rfl
  rfl
def vC(x:Test):List (Int×Sl Node) :=
 if x.op=7 then [(if x.low then 11 else 12,x.a),(if x.high then 9 else 10,x.b)] else match jZ x.op with
  |some s=>[(s,x.a)]
  |none=>[]
def opsT(l:List (Int×Sl Node)):Tree:=match l with
 |[]=>.sl true true []
 |l=>.sl false false (l.map fun p=>[.int .u8 p.1])
def jW(l:List (Int×Sl Node)):Tree:=match l with
 |[]=>.sl true true []
 |l=>.sl false false (l.map fun p=>[p.2.t Node.c])
def zWn(x:Test):Om CC 38 [.t (.agg x.c)] []=some (.val (.tup [.t (opsT (vC x)),.t (jW (vC x))]),[]):=by
 refine zL yCY rfl ?_
 (have F_:=c5 zF zG zP zE (c5 zC zB zO zK (c5 zM yR zRS zXJ (c5 zAQ zAG zI yIH (c5 zLc @sgn0 @sgn1 @sgn2 (c2 @sgn3 @sgn4)))));show W CC 0 39 (zA 38) _ ⟨[(0,_)],[]⟩ _)
 obtain⟨op,⟨anl,acl,al⟩,⟨bnl,bcl,bl⟩,low,high,kids,line,col⟩:=x;have hs:=zFv
 by_cases h7:op=7
 ·have e7:(op==7)=true:=by simp [h7]
  cases low<;>cases high
  all_goals (simp only[vC,h7,if_true,Bool.false_eq_true,if_false,opsT,jW,List.map_cons,List.map_nil,Sl.t];clear h7)<;>(refine gA ?_)<;>refine aK ?_ ?_<;>(rfl)
 have e7:(op==7)=false:=by simpa using h7
 have w0:IntKind.i64.wrap (0+1)=1:=by decide
 have w1:IntKind.i64.wrap (1+1)=2:=by decide
 have w2:IntKind.i64.wrap (2+1)=3:=by decide
 have w3:IntKind.i64.wrap (3+1)=4:=by decide
 have w4:IntKind.i64.wrap (4+1)=5:=by decide
 have d0:decide ((0:Int)<5)=true:=by decide
 have d1:decide ((1:Int)<5)=true:=by decide
 have d2:decide ((2:Int)<5)=true:=by decide
 have d3:decide ((3:Int)<5)=true:=by decide
 have d4:decide ((4:Int)<5)=true:=by decide
 have d5:decide ((5:Int)<5)=false:=by decide
 by_cases h2:op=2
 ·have e2:((2:Int)==op)=true:=by simp [h2]
  have hp:vC ⟨op,⟨anl,acl,al⟩,⟨bnl,bcl,bl⟩,low,high,kids,line,col⟩=[(7,⟨anl,acl,al⟩)]:=by simp [vC,jZ,h2]
  rw[hp];simp only[opsT,jW,List.map_cons,List.map_nil,Sl.t];clear hp h7 h2
  (repeat' first|refine gA ?_|refine gT ?_ ?_<;>intro hv|refine aI ?_|fail)
  (refine aK ?_ ?_)
  ·rfl
  rfl
 have e2:((2:Int)==op)=false:=by simp;omega
 by_cases h3:op=3
 ·have e3:((3:Int)==op)=true:=by simp [h3]
  have hp:vC ⟨op,⟨anl,acl,al⟩,⟨bnl,bcl,bl⟩,low,high,kids,line,col⟩=[(9,⟨anl,acl,al⟩)]:=by simp [vC,jZ,h3]
  rw[hp];simp only[opsT,jW,List.map_cons,List.map_nil,Sl.t];clear hp h7 h2 h3
  (repeat' first|refine gA ?_|refine gT ?_ ?_<;>intro hv|refine aI ?_|fail)
  (refine aK ?_ ?_)
  ·rfl
  rfl
 have e3:((3:Int)==op)=false:=by simp;omega
 by_cases h4:op=4
 ·have e4:((4:Int)==op)=true:=by simp [h4]
  have hp:vC ⟨op,⟨anl,acl,al⟩,⟨bnl,bcl,bl⟩,low,high,kids,line,col⟩=[(10,⟨anl,acl,al⟩)]:=by simp [vC,jZ,h4]
  rw[hp];simp only[opsT,jW,List.map_cons,List.map_nil,Sl.t];clear hp h7 h2 h3 h4
  (repeat' first|refine gA ?_|refine gT ?_ ?_<;>intro hv|refine aI ?_|fail)
  (refine aK ?_ ?_)
  ·rfl
  rfl
 have e4:((4:Int)==op)=false:=by simp;omega
 by_cases h5:op=5
 ·have e5:((5:Int)==op)=true:=by simp [h5]
  have hp:vC ⟨op,⟨anl,acl,al⟩,⟨bnl,bcl,bl⟩,low,high,kids,line,col⟩=[(11,⟨anl,acl,al⟩)]:=by simp [vC,jZ,h5]
  rw[hp];simp only[opsT,jW,List.map_cons,List.map_nil,Sl.t];clear hp h7 h2 h3 h4 h5
  (repeat' first|refine gA ?_|refine gT ?_ ?_<;>intro hv|refine aI ?_|fail)
  (refine aK ?_ ?_)
  ·rfl
  rfl
 have e5:((5:Int)==op)=false:=by simp;omega
 by_cases h6:op=6
 ·have e6:((6:Int)==op)=true:=by simp [h6]
  have hp:vC ⟨op,⟨anl,acl,al⟩,⟨bnl,bcl,bl⟩,low,high,kids,line,col⟩=[(12,⟨anl,acl,al⟩)]:=by simp [vC,jZ,h6]
  rw[hp];simp only[opsT,jW,List.map_cons,List.map_nil,Sl.t];clear hp h7 h2 h3 h4 h5 h6
  (repeat' first|refine gA ?_|refine gT ?_ ?_<;>intro hv|refine aI ?_|fail)
  (refine aK ?_ ?_)
  ·rfl
  rfl
 have e6:((6:Int)==op)=false:=by simp;omega
 have hp:vC ⟨op,⟨anl,acl,al⟩,⟨bnl,bcl,bl⟩,low,high,kids,line,col⟩=[]:=by simp [vC,jZ,h7,h2,h3,h4,h5,h6]
 rw[hp];simp only[opsT,jW];clear hp h7 h2 h3 h4 h5 h6
 (repeat' first|refine gA ?_|refine gT ?_ ?_<;>intro hv|refine aI ?_|fail)
 (refine aK ?_ ?_)
 ·rfl
 rfl
def vJ(op:Int)(l:List SNode):List SNode:=l++[⟨3,Zero,[],[]⟩,⟨op,Zero,[],[(l.length:Int),(l.length:Int) - 1]⟩]
def zVo(op:Int)(l:List Node):(zGP op l).map Node.s=vJ op (l.map Node.s):=by
 simp [zGP,vJ,Node.s]
def zNQ(x:Test):zC6 x.s=(vC x).map fun p=>(p.1,p.2.l.map Node.s):=by
 unfold zC6 vC Test.s;dsimp only;split
 ·rfl
 cases jZ x.op<;>rfl
noncomputable def zHG(x:STst)(self:Val)(vars:List Bind):List Ans:=(zC6 x).map fun p=>vG (vJ p.1 p.2) self vars
noncomputable def zA2(op:Int)(kl:List Ans):Ans :=
 if op=1 then ⟨⟨4,1,[]⟩,0⟩ else if op=8 then NotU (getA kl 0) else if op=9 then (kl.drop 1).foldl uL (getA kl 0) else ⟨Zero,2⟩
noncomputable def qR(x:STst)(al:List Ans)(self:Val)(vars:List Bind):Ans :=
 match zHG x self vars with
 |[a]=>a
 |[a,b]=>jP a b
 |_=>zA2 x.op (zAa al x.kids)
noncomputable def qS(ts:List STst)(self:Val)(vars:List Bind):Nat→List Ans
 |0=>[]
 |i+1=>qS ts self vars i++[match ts[i]? with
  |some x=>qR x (qS ts self vars i) self vars
  |none=>AZero]
noncomputable def xH(ts:List STst)(self:Val)(vars:List Bind):Ans:=zCn (qS ts self vars ts.length)
def zHO(ts:List STst)(self:Val)(vars:List Bind):∀i,(qS ts self vars i).length=i
 |0=>rfl
 |i+1=>by simp [qS,zHO ts self vars i]
noncomputable def SemA(self:Val)(vars:List Bind):Sem:=⟨fun op l=>vG (vJ op l) self vars,jP,uL,NotU⟩
def zT9(x:STst)(al:List Ans)(self:Val)(vars:List Bind):qR x al self vars=zGi (SemA self vars) x al:=by
 unfold qR zGi zHG SemA;dsimp only;cases (zC6 x).map fun p=>vG (vJ p.1 p.2) self vars with
 |nil=>rfl
 |cons a l=>cases l with
  |nil=>rfl
  |cons b l=>cases l<;>rfl
def zNu(ts:List STst)(self:Val)(vars:List Bind):∀i,qS ts self vars i=wB (SemA self vars) ts i
 |0=>rfl
 |i+1=>by
  rw[qS,wB,zNu ts self vars i];cases ts[i]? with
  |none=>rfl
  |some x=>simp only[zT9]
def zLC(ts:List STst)(self:Val)(vars:List Bind):xH ts self vars=kB (SemA self vars) ts:=by
 unfold xH kB;rw[zNu]
structure XOK (T:Sl Node):Prop where
 nil:T.nl=true→T.l=[]
 len:T.l.length<4294967000
 kids:∀x ∈ T.l,x.kids.l.length<4294967295
 val:∀x ∈ T.l,VOK x.v
structure TOK (x:Test):Prop where
 a:XOK x.a
 b:XOK x.b
 kids:x.kids.l.length<4294967295
def zRa (s:Int) (T:Sl Node) (self:Val) (vnl vcl:Bool) (vars:List Bind) (hT:XOK T) (hs:VOK self) (hv:∀b ∈ vars,VOK b.v) (hC:vars.length<9223372036854775808) :
  ∃L:List (List Tree),Om CC 40 [.t (.int .u8 s),.t (.sl T.nl T.cl (T.l.map Node.c))] []=some (.val (.t (.sl false false L)),[]) ∧
   Om CC 39 [.t (.sl false false L),.t (.agg [.int .u8 self.k,.int .i64 self.n,.str self.s]),.t (.sl vnl vcl (vars.map Bind.c))] [] =
    some (.val (.tup [.t (.agg [.int .u8 (vG (vJ s (T.l.map Node.s)) self vars).v.k,.int .i64 (vG (vJ s (T.l.map Node.s)) self vars).v.n,.str (vG (vJ s (T.l.map Node.s)) self vars).v.s]),.t (.int .i64 (vG (vJ s (T.l.map Node.s)) self vars).e)]),[]):=by
 refine⟨_,zWB s T.nl T.cl T.l hT.nil hT.len,?_⟩;have h:=zWL ⟨false,false,zGP s T.l⟩ self vnl vcl vars ?_ ?_ hC ?_ hs hv
 ·rw[zVo] at h;exact h
 ·have:=hT.len;simp [zGP];omega
 ·intro x hx;rcases List.mem_append.1 hx with h|h
  ·exact hT.kids x h
  simp at h;rcases h with rfl|rfl<;>simp
 intro x hx;rcases List.mem_append.1 hx with h|h
 ·exact hT.val x h
 simp at h;rcases h with rfl|rfl<;>exact yX
def zOy(s:Int)(T:Sl Node)(self:Val)(vars:List Bind)(hT:XOK T)(hs:VOK self)(hv:∀b ∈ vars,VOK b.v):AOK (vG (vJ s (T.l.map Node.s)) self vars):=by
 unfold vG;refine zYV _ (zMX _ _ _ (fun x hx=>?_) hs hv _);rcases List.mem_append.1 hx with h|h
 ·obtain⟨y,hy,rfl⟩:=List.mem_map.1 h;exact hT.val y hy
 simp at h;rcases h with rfl|rfl<;>exact yX
def zJQ(x:Test):vC x=[]∨(∃s,vC x=[(s,x.a)])∨∃s t,vC x=[(s,x.a),(t,x.b)]:=by
 unfold vC;split
 ·exact .inr (.inr ⟨_,_,rfl⟩)
 split
 ·exact .inr (.inl ⟨_,rfl⟩)
 exact .inl rfl
def yFH(al:List Ans)(h:∀a ∈ al,AOK a)(k:Int):AOK (kidT al k):=by
 unfold kidT;split
 ·exact yX
 exact zBK h _
def zQY(al:List Ans)(h:∀a ∈ al,AOK a)(ks:List Int):∀a ∈ zAa al ks,AOK a:=by
 unfold zAa;split
 ·intro a ha;rw[List.mem_singleton.1 ha];exact yX
 intro a ha;obtain⟨k,_,rfl⟩:=List.mem_map.1 ha;exact yFH al h k
def zMT:∀(l:List Ans) (a:Ans),AOK a→AOK (l.foldl uL a)
 |[],a,h=>h
 |b::l,a,_=>zMT l _ (zUy a b)
def zQb (x:Test) (al:List Ans) (self:Val) (vars:List Bind) :
  (vC x=[]→qR x.s al self vars=zA2 x.op (zAa al x.kids.l))∧(∀s,vC x=[(s,x.a)]→qR x.s al self vars=vG (vJ s (x.a.l.map Node.s)) self vars) ∧
   (∀s t,vC x=[(s,x.a),(t,x.b)]→qR x.s al self vars=jP (vG (vJ s (x.a.l.map Node.s)) self vars) (vG (vJ t (x.b.l.map Node.s)) self vars)):=by
 refine⟨fun h=>?_,fun s h=>?_,fun s t h=>?_⟩<;>(unfold qR zHG;rw[zNQ,h];rfl)
def zZd(x:Test)(al:List Ans)(self:Val)(vars:List Bind)(hx:TOK x)(h:∀a ∈ al,AOK a)(hs:VOK self)(hv:∀b ∈ vars,VOK b.v):AOK (qR x.s al self vars):=by
 have hd:AOK (zA2 x.op (zAa al x.kids.l)):=by
  unfold zA2;have hk:=zQY al h x.kids.l;split
  ·exact⟨yA0.2,by simp⟩
  split
  ·exact yDa _ (zBK hk 0)
  split
  ·exact zMT _ _ (zBK hk 0)
  exact yX
 unfold qR zHG;rw[zNQ];rcases zJQ x with h1|⟨s,h1⟩|⟨s,t,h1⟩
 ·rw[h1];exact hd
 ·rw[h1];exact zOy s x.a self vars hx.a hs hv
 rw[h1];exact zUZ _ _
end Go.Ab
