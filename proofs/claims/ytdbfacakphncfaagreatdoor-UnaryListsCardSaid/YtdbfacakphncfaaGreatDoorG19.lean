/- Lemmas. -/
import Derived.Test.YtdbfacakphncfaaGreatDoorG18
import Derived.Test.YtdbfacakphncfaaGreatDoorG12
set_option maxRecDepth 1000000
set_option maxHeartbeats 4000000
set_option linter.unusedSimpArgs false
set_option linter.unusedVariables false
namespace Go.Ab
open Go.Proofs
def zBQ(a:Ans):Bool:=(a.e==0)&&((a.v.k==4)&&(a.v.n==1))
theorem zSk(a:Ans):Om CC 23 [.t (.agg [.int .u8 a.v.k,.int .i64 a.v.n,.str a.v.s]),.t (.int .i64 a.e)] []=some (.val (.t (.bool (zBQ a))),[]):=by
 refine zV yCz rfl ?_
 (have F_:=c5 zK zL zI zH (c2 yB yDl);show W CC 0 17 (zE 23) _ ⟨[(0,_),(1,_)],[]⟩ _)
 unfold zBQ;cases h1:a.e==0<;>cases h2:a.v.k==4<;>cases h3:a.v.n==1
 all_goals (with_reducible repeat' first|apply aA|refine aB ?_|refine aC ?_|refine aD ?_|(first|apply zB|apply zA|apply zC|apply zD)<;>intro hg<;>try with_unfolding_all cases hg;done|refine aE ?_|refine aF ?_|refine aG ?_|refine aH ?_ ?_<;>intro hv<;>try with_unfolding_all cases hv;done)
 all_goals refine aK ?_ ?_
 all_goals rfl
theorem zF7(a:Ans):∃x:Ans,Om CC 86 [.t (.agg [.int .u8 a.v.k,.int .i64 a.v.n,.str a.v.s,.int .i64 a.e])] []=some (.val (.t (.agg [.int .u8 x.v.k,.int .i64 x.v.n,.str x.v.s,.int .i64 x.e])),[])∧(AOK a→AOK x):=by
 refine zN zRB rfl ?_
 (have F_:=c5 zK zL zI zH (c3 yB zFf zUM);show W CC 0 20 (zE 86) _ ⟨[(0,_)],[]⟩ _)
 obtain⟨⟨k,n,s⟩,e⟩:=a
 (with_reducible repeat' first|apply aA|refine aB ?_|refine aC ?_|refine aD ?_|(first|apply zB|apply zA|apply zC|apply zD)<;>intro hg<;>try with_unfolding_all cases hg;done|refine aE ?_|refine aF ?_|refine aG ?_|refine aH ?_ ?_<;>intro hv<;>try with_unfolding_all cases hv;done)
 all_goals refine aJ ?_
 all_goals first|exact⟨⟨⟨k,n,s⟩,e⟩,⟨rfl,rfl⟩,fun h=>h⟩|exact⟨⟨Zero,8⟩,⟨rfl,rfl⟩,fun _=>xE⟩
noncomputable def zA0(a:Ans):Ans:=(zF7 a).choose
theorem zAW(k n:Int)(s:List Nat)(e:Int):Om CC 86 [.t (.agg [.int .u8 k,.int .i64 n,.str s,.int .i64 e])] []=some (.val (.t (.agg [.int .u8 (zA0 ⟨⟨k,n,s⟩,e⟩).v.k,.int .i64 (zA0 ⟨⟨k,n,s⟩,e⟩).v.n,.str (zA0 ⟨⟨k,n,s⟩,e⟩).v.s,.int .i64 (zA0 ⟨⟨k,n,s⟩,e⟩).e])),[]):=(zF7 ⟨⟨k,n,s⟩,e⟩).choose_spec.1
theorem zIx(a:Ans):AOK a→AOK (zA0 a):=(zF7 a).choose_spec.2
theorem zI7(a:Ans):∃x:Ans,Om CC 43 [.t (.agg [.int .u8 a.v.k,.int .i64 a.v.n,.str a.v.s,.int .i64 a.e])] []=some (.val (.t (.agg [.int .u8 x.v.k,.int .i64 x.v.n,.str x.v.s,.int .i64 x.e])),[])∧(AOK a→AOK x):=by
 refine zN zSg rfl ?_
 (have F_:=c5 zK zL zI zH (c5 yB zFf zUF zMh (c2 zMg @zFD));show W CC 0 13 (zE 43) _ ⟨[(0,_)],[]⟩ _)
 obtain⟨⟨k,n,s⟩,e⟩:=a;have ht:=zAW k n s e;have hp:=zIx ⟨⟨k,n,s⟩,e⟩;have pn:=zFL (zA0 ⟨⟨k,n,s⟩,e⟩).v;generalize zA0 ⟨⟨k,n,s⟩,e⟩=t at ht hp pn;have hp2:Hid _:=⟨hp⟩
 have pn2:Hid _:=⟨pn⟩
 clear hp pn
 (with_reducible repeat' first|apply aA|refine aB ?_|refine aC ?_|refine aD ?_|(first|apply zB|apply zA|apply zC|apply zD)<;>intro hg<;>try with_unfolding_all cases hg;done|refine aE ?_|refine aF ?_|refine aG ?_|refine aH ?_ ?_<;>intro hv<;>try with_unfolding_all cases hv;done)
 all_goals refine aJ ?_
 all_goals first|exact⟨t,⟨rfl,rfl⟩,hp2.h⟩|exact⟨⟨NotV t.v,t.e⟩,⟨rfl,rfl⟩,fun _=>pn2.h⟩|exact⟨⟨NotV t.v,0⟩,⟨rfl,rfl⟩,fun _=>pn2.h⟩
noncomputable def NotU(a:Ans):Ans:=(zI7 a).choose
theorem zKX(k n:Int)(s:List Nat)(e:Int):Om CC 43 [.t (.agg [.int .u8 k,.int .i64 n,.str s,.int .i64 e])] []=some (.val (.t (.agg [.int .u8 (NotU ⟨⟨k,n,s⟩,e⟩).v.k,.int .i64 (NotU ⟨⟨k,n,s⟩,e⟩).v.n,.str (NotU ⟨⟨k,n,s⟩,e⟩).v.s,.int .i64 (NotU ⟨⟨k,n,s⟩,e⟩).e])),[]):=(zI7 ⟨⟨k,n,s⟩,e⟩).choose_spec.1
theorem zZR(a:Ans):AOK a→AOK (NotU a):=(zI7 a).choose_spec.2
theorem zCe (f:Nat) (hb:zF Tryz.prog f=true) (hbp:∀x,CC.prim f x=none) (F:Val→Val→Val) (hF:∀a b,VOK a→VOK b→Om CC f [.t (.sl false false [[.int .u8 a.k,.int .i64 a.n,.str a.s],[.int .u8 b.k,.int .i64 b.n,.str b.s]])] []=some (.val (.t (.agg [.int .u8 (F a b).k,.int .i64 (F a b).n,.str (F a b).s])),[]))
  (hFp:∀a b,VOK a→VOK b→VOK (F a b)) (a b:Ans) (ends:Bool) (ha:AOK a) (hb':AOK b) :
  ∃x:Ans,Om CC 41 [.t (.agg [.int .u8 a.v.k,.int .i64 a.v.n,.str a.v.s,.int .i64 a.e]),.t (.agg [.int .u8 b.v.k,.int .i64 b.v.n,.str b.v.s,.int .i64 b.e]),.t (.bool ends),.t (.fn f)] []=some (.val (.t (.agg [.int .u8 x.v.k,.int .i64 x.v.n,.str x.v.s,.int .i64 x.e])),[])∧AOK x:=by
 refine zN zRl rfl ?_
 (have F_:=c5 zK zR zL zI (c5 zH yB zFf zGL (c5 wP zUl zMh zDk (c2 @qZ @zGg)));show W CC 0 38 (zE 41) _ ⟨[(0,_),(1,_),(2,_),(3,_)],[]⟩ _)
 obtain⟨⟨k,n,s⟩,e⟩:=a;obtain⟨⟨k',n',s'⟩,e'⟩:=b;have ht:=zAW k n s e;have ht':=zAW k' n' s' e';have hp:=zIx ⟨⟨k,n,s⟩,e⟩ ha;have hp':=zIx ⟨⟨k',n',s'⟩,e'⟩ hb';generalize zA0 ⟨⟨k,n,s⟩,e⟩=t at ht hp;generalize zA0 ⟨⟨k',n',s'⟩,e'⟩=u at ht' hp';have hf:=hF t.v u.v hp hp';have hfp:=hFp t.v u.v hp hp';clear hF hFp ha hb';obtain⟨⟨tk,tn,ts⟩,te⟩:=t;obtain⟨⟨uk,un,us⟩,ue⟩:=u
 (with_reducible repeat' first|apply aA|refine aB ?_|refine aC ?_|refine aD ?_|(first|apply zB|apply zA|apply zC|apply zD)<;>intro hg<;>try with_unfolding_all cases hg;done|refine aE ?_|refine aF ?_|refine aG ?_|refine aH ?_ ?_<;>intro hv<;>try with_unfolding_all cases hv;done)
 all_goals refine aJ ?_
 all_goals first|exact⟨⟨⟨tk,tn,ts⟩,te⟩,⟨rfl,rfl⟩,hp⟩|exact⟨⟨⟨uk,un,us⟩,ue⟩,⟨rfl,rfl⟩,hp'⟩|exact⟨⟨F ⟨tk,tn,ts⟩ ⟨uk,un,us⟩,0⟩,⟨rfl,rfl⟩,hfp⟩
open Classical in
noncomputable def jW(a b:Ans):Ans:=if h:AOK a∧AOK b then (zCe 42 zH6 (fun x=>zZ _ x (by decide)) All2 zEf zJO a b false h.1 h.2).choose else AZero
theorem zGy(a b:Ans)(ha:AOK a)(hb:AOK b):Om CC 41 [.t (.agg [.int .u8 a.v.k,.int .i64 a.v.n,.str a.v.s,.int .i64 a.e]),.t (.agg [.int .u8 b.v.k,.int .i64 b.v.n,.str b.v.s,.int .i64 b.e]),.t (.bool false),.t (.fn 42)] []=some (.val (.t (.agg [.int .u8 (jW a b).v.k,.int .i64 (jW a b).v.n,.str (jW a b).v.s,.int .i64 (jW a b).e])),[]):=by
 unfold jW;rw[dif_pos ⟨ha,hb⟩];exact(zCe 42 zH6 (fun x=>zZ _ x (by decide)) All2 zEf zJO a b false ha hb).choose_spec.1
theorem zQc(a b:Ans):AOK (jW a b):=by
 unfold jW;split
 ·rename_i h;exact(zCe 42 zH6 (fun x=>zZ _ x (by decide)) All2 zEf zJO a b false h.1 h.2).choose_spec.2
 exact xE
open Classical in
noncomputable def qM(a b:Ans):Ans:=if h:AOK a∧AOK b then (zCe 44 zJP (fun x=>zZ _ x (by decide)) Any2 zEg zJv a b true h.1 h.2).choose else AZero
theorem zKn(a b:Ans)(ha:AOK a)(hb:AOK b):Om CC 41 [.t (.agg [.int .u8 a.v.k,.int .i64 a.v.n,.str a.v.s,.int .i64 a.e]),.t (.agg [.int .u8 b.v.k,.int .i64 b.v.n,.str b.v.s,.int .i64 b.e]),.t (.bool true),.t (.fn 44)] []=some (.val (.t (.agg [.int .u8 (qM a b).v.k,.int .i64 (qM a b).v.n,.str (qM a b).v.s,.int .i64 (qM a b).e])),[]):=by
 unfold qM;rw[dif_pos ⟨ha,hb⟩];exact(zCe 44 zJP (fun x=>zZ _ x (by decide)) Any2 zEg zJv a b true ha hb).choose_spec.1
theorem zQP(a b:Ans):AOK (qM a b):=by
 unfold qM;split
 ·rename_i h;exact(zCe 44 zJP (fun x=>zZ _ x (by decide)) Any2 zEg zJv a b true h.1 h.2).choose_spec.2
 exact xE
theorem zPD(cl:Bool)(es:List (List Tree)):Om CC 85 [.t (.sl true cl es)] []=some (.val (.t (.sl true true [])),[]):=by
 refine zV zQd rfl ?_
 (have F_:=c5 zK zO zL zI (c5 zH yA zS zY (c2 zQ zUG));show W CC 0 8 (zE 85) _ ⟨[(0,_)],[]⟩ _)
 repeat (first|(with_reducible first|apply xK|apply wA|apply vA|apply vB|apply xC|apply wJ|apply xT|apply wI|apply xD|apply wZ)|(refine wY (by kernel_rfl) ?_)|(with_reducible first|apply wH|apply wF|apply xS|apply wC|apply wB|apply uD|apply vQ|apply vP|apply uT|apply kG|apply uU|apply vO)|((with_reducible apply zJ2);(focus kernel_rfl);(focus (simp only[wT,wanted,exec1,zJ,get,putT,ret,retO,lit,lit1,patch,uZ];exact rfl))))
 refine qQ (v:=true) (by(simp only[zJ,get])) (fun hv=>?_) (fun hv=>?_)
 ·repeat (first|(with_reducible first|apply xK|apply wA|apply vA|apply vB|apply xC|apply wJ|apply xT|apply wI|apply xD|apply wZ)|(refine wY (by kernel_rfl) ?_)|(with_reducible first|apply wH|apply wF|apply xS|apply wC|apply wB|apply uD|apply vQ|apply vP|apply uT|apply kG|apply uU|apply vO)|((with_reducible apply zJ2);(focus kernel_rfl);(focus (simp only[wT,wanted,exec1,zJ,putT,ret,lit,lit1,patch];exact rfl))))
  exact⟨by kernel_rfl,.t (.sl true true []),by kernel_rfl,by kernel_rfl⟩
 cases hv
theorem zRM(cl:Bool)(l:List Node)(hl:l.length<4294967296):Om CC 85 [.t (.sl false cl (l.map Node.c))] []=some (.val (.hs 0 0),[.arr 8 0 false (l.map Node.c)]):=by
 refine zV zQd rfl ?_
 (have F_:=c5 zK zO zL zI (c5 zH yA zS zY (c2 zQ zUG));show W CC 0 8 (zE 85) _ ⟨[(0,_)],[]⟩ _)
 repeat (first|(with_reducible first|apply xK|apply wA|apply vA|apply vB|apply xC|apply wJ|apply xT|apply wI|apply xD|apply wZ)|(refine wY (by kernel_rfl) ?_)|(with_reducible first|apply wH|apply wF|apply xS|apply wC|apply wB|apply uD|apply vQ|apply vP|apply uT|apply kG|apply uU|apply vO)|((with_reducible apply zJ2);(focus kernel_rfl);(focus (simp only[wT,wanted,exec1,zJ,get,putT,ret,retO,lit,lit1,patch,uZ];exact rfl))))
 refine qQ (v:=false) (by(simp only[zJ,get])) (fun hv=>?_) (fun hv=>?_)
 ·cases hv
 have hle:lens 8 (l.map Node.c)=true:=kU Node.c 8 (fun a=>rfl) l
 repeat (first|(with_reducible first|apply xK|apply wA|apply vA|apply vB|apply xC|apply wJ|apply xT|apply wI|apply xD|apply wZ)|(refine wY (by kernel_rfl) ?_)|(with_reducible first|apply wH|apply wF|apply xS|apply wC|apply wB|apply uD|apply vQ|apply vP|apply uT|apply kG|apply uU|apply vO)|((with_reducible apply zJ2);(focus kernel_rfl);(focus (simp only[decide_true,List.length_map,wT,wanted,exec1,kO,kR,zJ,opds,zCG,get,putT,ret,patch,put1,nth,uZ,Nat.zero_add,List.length_cons,List.length_nil,List.nil_append,Bool.and_self,if_false,Nat.reduceAdd,true_and,jE,wD,zAl,zAl.go,zDq,zAZ,append,added,elems,hle,hl,List.replicate,List.nil_append,Nat.not_lt_zero,Nat.zero_mul,decide_true,yA,zQ];exact rfl))))
 exact⟨by kernel_rfl,.hs 0 1,by kernel_rfl,by kernel_rfl⟩
def zFF(op:Int)(l:List Node):List Node:=l++[⟨3,Zero,[],⟨true,true,[]⟩,0,0⟩,⟨op,Zero,[],⟨false,false,[(l.length:Int),(l.length:Int) - 1]⟩,0,0⟩]
theorem zTt (op:Int) (nl cl:Bool) (l:List Node) (ha:nl=true→l=[]) (hl:l.length<4294967000) :
  Om CC 40 [.t (.int .u8 op),.t (.sl nl cl (l.map Node.c))] []=some (.val (.t (.sl false false ((zFF op l).map Node.c))),[]):=by
 refine zV zYR rfl ?_
 (have F_:=c5 zK zO zL zI (c5 zH yA zS zY (c3 zQ yDM yDF));show W CC 0 23 (zE 40) _ ⟨[(0,_),(1,_)],[]⟩ _)
 have hw:IntKind.i64.wrap ((l.length:Int) - 1)=(l.length:Int) - 1:=by rw[wrap64]<;>omega
 have hle:lens 8 (l.map Node.c)=true:=kU Node.c 8 (fun a=>rfl) l;have hs1:decide (l.length+1<4294967296)=true:=by simp;omega
 have hs2:decide (l.length+1+1<4294967296)=true:=by simp;omega
 have hh:zC2 8 (l.map Node.c)=true:=by cases l<;>rfl
 cases nl with
 |true =>
  obtain rfl:=ha rfl;have hc:=zPD cl [];have hw0:IntKind.i64.wrap (((0:Nat):Int) - 1)=((0:Nat):Int) - 1:=by decide
  clear hle hs1 hs2 hh ha hl
  (with_reducible repeat' first|apply aA|refine aB ?_|refine aC ?_|refine aD ?_|(first|apply zB|apply zA|apply zC|apply zD)<;>intro hg<;>try with_unfolding_all cases hg;done|refine aE ?_|refine aF ?_|refine aG ?_|refine aH ?_ ?_<;>intro hv<;>try with_unfolding_all cases hv;done)
  (refine aK ?_ ?_)
  ·rfl
  rfl
 |false =>
  have hc:=zRM cl l (by omega);clear ha hl
  (have x0_:=@Nat.sub_self;have x1_:=@List.length_append.{0};(with_reducible repeat' first|apply aA|refine aB ?_|refine aC ?_|refine aD ?_|(first|apply zB|apply zA|apply zC|apply zD)<;>intro hg<;>try with_unfolding_all cases hg;done|refine aE ?_|refine aF ?_|refine aG ?_|refine aH ?_ ?_<;>intro hv<;>try with_unfolding_all cases hv;done);all_goals clear x0_ x1_)
  (refine aK ?_ ?_)
  ·simp only[zFF,List.map_append,List.append_assoc];rfl
  rfl
def vS(x:Test):List (Int×Sl Node) :=
 if x.op=7 then [(if x.low then 11 else 12,x.a),(if x.high then 9 else 10,x.b)] else match zBb x.op with
  |some s=>[(s,x.a)]
  |none=>[]
def opsT(l:List (Int×Sl Node)):Tree:=match l with
 |[]=>.sl true true []
 |l=>.sl false false (l.map fun p=>[.int .u8 p.1])
def jZ(l:List (Int×Sl Node)):Tree:=match l with
 |[]=>.sl true true []
 |l=>.sl false false (l.map fun p=>[p.2.t Node.c])
theorem zUe(x:Test):Om CC 38 [.t (.agg x.c)] []=some (.val (.tup [.t (opsT (vS x)),.t (jZ (vS x))]),[]):=by
 refine zV yB7 rfl ?_
 (have F_:=c5 zK zO zR zL (c5 zI zH yA zS (c5 zY xP zPX zUR (c5 zBI zBy zQ yD6 (c5 zUt @sgn0 @sgn1 @sgn2 (c2 @sgn3 @sgn4)))));show W CC 0 39 (zE 38) _ ⟨[(0,_)],[]⟩ _)
 obtain⟨op,⟨anl,acl,al⟩,⟨bnl,bcl,bl⟩,low,high,kids,line,col⟩:=x;have hs:=zIT
 by_cases h7:op=7
 ·have e7:(op==7)=true:=by simp [h7]
  cases low<;>cases high
  all_goals (simp only[vS,h7,if_true,Bool.false_eq_true,if_false,opsT,jZ,List.map_cons,List.map_nil,Sl.t];clear h7)
  all_goals (with_reducible repeat' first|apply aA|refine aB ?_|refine aC ?_|refine aD ?_|(first|apply zB|apply zA|apply zC|apply zD)<;>intro hg<;>try with_unfolding_all cases hg;done|refine aE ?_|refine aF ?_|refine aG ?_|refine aH ?_ ?_<;>intro hv<;>try with_unfolding_all cases hv;done)
  all_goals refine aK ?_ ?_
  all_goals rfl
 have e7:(op==7)=false:=by simpa using h7
 have w0:IntKind.i64.wrap (0+1)=1:=by decide
 have w1:IntKind.i64.wrap (1+1)=2:=by decide
 have w2:IntKind.i64.wrap (2+1)=3:=by decide
 have w3:IntKind.i64.wrap (3+1)=4:=by decide
 have w4:IntKind.i64.wrap (4+1)=5:=by decide
 have d0:decide ((0:Int)<5)=true:=by decide
 have d1:decide ((1:Int)<5)=true:=by decide
 have d2:decide ((2:Int)<5)=true:=by decide
 have d3:decide ((3:Int)<5)=true:=by decide
 have d4:decide ((4:Int)<5)=true:=by decide
 have d5:decide ((5:Int)<5)=false:=by decide
 by_cases h2:op=2
 ·have e2:((2:Int)==op)=true:=by simp [h2]
  have hp:vS ⟨op,⟨anl,acl,al⟩,⟨bnl,bcl,bl⟩,low,high,kids,line,col⟩=[(7,⟨anl,acl,al⟩)]:=by simp [vS,zBb,h2]
  rw[hp];simp only[opsT,jZ,List.map_cons,List.map_nil,Sl.t];clear hp h7 h2
  (with_reducible repeat' first|apply aA|refine aB ?_|refine aC ?_|refine aD ?_|(first|apply zB|apply zA|apply zC|apply zD)<;>intro hg<;>try with_unfolding_all cases hg;done|refine aE ?_|refine aF ?_|refine aG ?_|refine aH ?_ ?_<;>intro hv<;>try with_unfolding_all cases hv;done|refine aI ?_)
  (refine aK ?_ ?_)
  ·rfl
  rfl
 have e2:((2:Int)==op)=false:=by simp;omega
 by_cases h3:op=3
 ·have e3:((3:Int)==op)=true:=by simp [h3]
  have hp:vS ⟨op,⟨anl,acl,al⟩,⟨bnl,bcl,bl⟩,low,high,kids,line,col⟩=[(9,⟨anl,acl,al⟩)]:=by simp [vS,zBb,h3]
  rw[hp];simp only[opsT,jZ,List.map_cons,List.map_nil,Sl.t];clear hp h7 h2 h3
  (with_reducible repeat' first|apply aA|refine aB ?_|refine aC ?_|refine aD ?_|(first|apply zB|apply zA|apply zC|apply zD)<;>intro hg<;>try with_unfolding_all cases hg;done|refine aE ?_|refine aF ?_|refine aG ?_|refine aH ?_ ?_<;>intro hv<;>try with_unfolding_all cases hv;done|refine aI ?_)
  (refine aK ?_ ?_)
  ·rfl
  rfl
 have e3:((3:Int)==op)=false:=by simp;omega
 by_cases h4:op=4
 ·have e4:((4:Int)==op)=true:=by simp [h4]
  have hp:vS ⟨op,⟨anl,acl,al⟩,⟨bnl,bcl,bl⟩,low,high,kids,line,col⟩=[(10,⟨anl,acl,al⟩)]:=by simp [vS,zBb,h4]
  rw[hp];simp only[opsT,jZ,List.map_cons,List.map_nil,Sl.t];clear hp h7 h2 h3 h4
  (with_reducible repeat' first|apply aA|refine aB ?_|refine aC ?_|refine aD ?_|(first|apply zB|apply zA|apply zC|apply zD)<;>intro hg<;>try with_unfolding_all cases hg;done|refine aE ?_|refine aF ?_|refine aG ?_|refine aH ?_ ?_<;>intro hv<;>try with_unfolding_all cases hv;done|refine aI ?_)
  (refine aK ?_ ?_)
  ·rfl
  rfl
 have e4:((4:Int)==op)=false:=by simp;omega
 by_cases h5:op=5
 ·have e5:((5:Int)==op)=true:=by simp [h5]
  have hp:vS ⟨op,⟨anl,acl,al⟩,⟨bnl,bcl,bl⟩,low,high,kids,line,col⟩=[(11,⟨anl,acl,al⟩)]:=by simp [vS,zBb,h5]
  rw[hp];simp only[opsT,jZ,List.map_cons,List.map_nil,Sl.t];clear hp h7 h2 h3 h4 h5
  (with_reducible repeat' first|apply aA|refine aB ?_|refine aC ?_|refine aD ?_|(first|apply zB|apply zA|apply zC|apply zD)<;>intro hg<;>try with_unfolding_all cases hg;done|refine aE ?_|refine aF ?_|refine aG ?_|refine aH ?_ ?_<;>intro hv<;>try with_unfolding_all cases hv;done|refine aI ?_)
  (refine aK ?_ ?_)
  ·rfl
  rfl
 have e5:((5:Int)==op)=false:=by simp;omega
 by_cases h6:op=6
 ·have e6:((6:Int)==op)=true:=by simp [h6]
  have hp:vS ⟨op,⟨anl,acl,al⟩,⟨bnl,bcl,bl⟩,low,high,kids,line,col⟩=[(12,⟨anl,acl,al⟩)]:=by simp [vS,zBb,h6]
  rw[hp];simp only[opsT,jZ,List.map_cons,List.map_nil,Sl.t];clear hp h7 h2 h3 h4 h5 h6
  (with_reducible repeat' first|apply aA|refine aB ?_|refine aC ?_|refine aD ?_|(first|apply zB|apply zA|apply zC|apply zD)<;>intro hg<;>try with_unfolding_all cases hg;done|refine aE ?_|refine aF ?_|refine aG ?_|refine aH ?_ ?_<;>intro hv<;>try with_unfolding_all cases hv;done|refine aI ?_)
  (refine aK ?_ ?_)
  ·rfl
  rfl
 have e6:((6:Int)==op)=false:=by simp;omega
 have hp:vS ⟨op,⟨anl,acl,al⟩,⟨bnl,bcl,bl⟩,low,high,kids,line,col⟩=[]:=by simp [vS,zBb,h7,h2,h3,h4,h5,h6]
 rw[hp];simp only[opsT,jZ];clear hp h7 h2 h3 h4 h5 h6
 (with_reducible repeat' first|apply aA|refine aB ?_|refine aC ?_|refine aD ?_|(first|apply zB|apply zA|apply zC|apply zD)<;>intro hg<;>try with_unfolding_all cases hg;done|refine aE ?_|refine aF ?_|refine aG ?_|refine aH ?_ ?_<;>intro hv<;>try with_unfolding_all cases hv;done|refine aI ?_)
 (refine aK ?_ ?_)
 ·rfl
 rfl
def qI(op:Int)(l:List SNode):List SNode:=l++[⟨3,Zero,[],[]⟩,⟨op,Zero,[],[(l.length:Int),(l.length:Int) - 1]⟩]
theorem zR4(op:Int)(l:List Node):(zFF op l).map Node.s=qI op (l.map Node.s):=by
 simp [zFF,qI,Node.s]
theorem zLX(x:Test):zDt x.s=(vS x).map fun p=>(p.1,p.2.l.map Node.s):=by
 unfold zDt vS Test.s;dsimp only;split
 ·rfl
 cases zBb x.op<;>rfl
noncomputable def zMb(x:STst)(self:Val)(vars:List Bind):List Ans:=(zDt x).map fun p=>uW (qI p.1 p.2) self vars
noncomputable def zAK(op:Int)(kl:List Ans):Ans :=
 if op=1 then ⟨⟨4,1,[]⟩,0⟩ else if op=8 then NotU (getA kl 0) else if op=9 then (kl.drop 1).foldl qM (getA kl 0) else ⟨Zero,2⟩
noncomputable def kX(x:STst)(al:List Ans)(self:Val)(vars:List Bind):Ans :=
 match zMb x self vars with
 |[a]=>a
 |[a,b]=>jW a b
 |_=>zAK x.op (kQ al x.kids)
noncomputable def zAq(ts:List STst)(self:Val)(vars:List Bind):Nat→List Ans
 |0=>[]
 |i+1=>zAq ts self vars i++[match ts[i]? with
  |some x=>kX x (zAq ts self vars i) self vars
  |none=>AZero]
noncomputable def qH(ts:List STst)(self:Val)(vars:List Bind):Ans:=zDe (zAq ts self vars ts.length)
theorem zGE(ts:List STst)(self:Val)(vars:List Bind):∀i,(zAq ts self vars i).length=i
 |0=>rfl
 |i+1=>by simp [zAq,zGE ts self vars i]
noncomputable def SemA(self:Val)(vars:List Bind):Sem:=⟨fun op l=>uW (qI op l) self vars,jW,qM,NotU⟩
theorem zSI(x:STst)(al:List Ans)(self:Val)(vars:List Bind):kX x al self vars=zFa (SemA self vars) x al:=by
 unfold kX zFa zMb SemA;dsimp only;cases (zDt x).map fun p=>uW (qI p.1 p.2) self vars with
 |nil=>rfl
 |cons a l=>cases l with
  |nil=>rfl
  |cons b l=>cases l<;>rfl
theorem zL1(ts:List STst)(self:Val)(vars:List Bind):∀i,zAq ts self vars i=xZ (SemA self vars) ts i
 |0=>rfl
 |i+1=>by
  rw[zAq,xZ,zL1 ts self vars i];cases ts[i]? with
  |none=>rfl
  |some x=>simp only[zSI]
theorem zPm(ts:List STst)(self:Val)(vars:List Bind):qH ts self vars=zBa (SemA self vars) ts:=by
 unfold qH zBa;rw[zL1]
structure XOK (T:Sl Node):Prop where
 nil:T.nl=true→T.l=[]
 len:T.l.length<4294967000
 kids:∀x ∈ T.l,x.kids.l.length<4294967295
 val:∀x ∈ T.l,VOK x.v
structure TOK (x:Test):Prop where
 a:XOK x.a
 b:XOK x.b
 kids:x.kids.l.length<4294967295
theorem zOj (s:Int) (T:Sl Node) (self:Val) (vnl vcl:Bool) (vars:List Bind) (hT:XOK T) (hs:VOK self) (hv:∀b ∈ vars,VOK b.v) (hvl:vars.length<9223372036854775808) :
  ∃L:List (List Tree),Om CC 40 [.t (.int .u8 s),.t (.sl T.nl T.cl (T.l.map Node.c))] []=some (.val (.t (.sl false false L)),[]) ∧
   Om CC 39 [.t (.sl false false L),.t (.agg [.int .u8 self.k,.int .i64 self.n,.str self.s]),.t (.sl vnl vcl (vars.map Bind.c))] [] =
    some (.val (.tup [.t (.agg [.int .u8 (uW (qI s (T.l.map Node.s)) self vars).v.k,.int .i64 (uW (qI s (T.l.map Node.s)) self vars).v.n,.str (uW (qI s (T.l.map Node.s)) self vars).v.s]),.t (.int .i64 (uW (qI s (T.l.map Node.s)) self vars).e)]),[]):=by
 refine⟨_,zTt s T.nl T.cl T.l hT.nil hT.len,?_⟩;have h:=zTR ⟨false,false,zFF s T.l⟩ self vnl vcl vars ?_ ?_ hvl ?_ hs hv
 ·rw[zR4] at h;exact h
 ·have:=hT.len;simp [zFF];omega
 ·intro x hx;rcases List.mem_append.1 hx with h|h
  ·exact hT.kids x h
  simp at h;rcases h with rfl|rfl<;>simp
 intro x hx;rcases List.mem_append.1 hx with h|h
 ·exact hT.val x h
 simp at h;rcases h with rfl|rfl<;>exact xE
theorem zM5(s:Int)(T:Sl Node)(self:Val)(vars:List Bind)(hT:XOK T)(hs:VOK self)(hv:∀b ∈ vars,VOK b.v):AOK (uW (qI s (T.l.map Node.s)) self vars):=by
 unfold uW;refine zVR _ (zKE _ _ _ (fun x hx=>?_) hs hv _);rcases List.mem_append.1 hx with h|h
 ·obtain⟨y,hy,rfl⟩:=List.mem_map.1 h;exact hT.val y hy
 simp at h;rcases h with rfl|rfl<;>exact xE
theorem zIn(x:Test):vS x=[]∨(∃s,vS x=[(s,x.a)])∨∃s t,vS x=[(s,x.a),(t,x.b)]:=by
 unfold vS;split
 ·exact .inr (.inr ⟨_,_,rfl⟩)
 split
 ·exact .inr (.inl ⟨_,rfl⟩)
 exact .inl rfl
theorem zZJ(al:List Ans)(h:∀a ∈ al,AOK a)(k:Int):AOK (kidT al k):=by
 unfold kidT;split
 ·exact xE
 exact zBd h _
theorem zOq(al:List Ans)(h:∀a ∈ al,AOK a)(ks:List Int):∀a ∈ kQ al ks,AOK a:=by
 unfold kQ;split
 ·intro a ha;rw[List.mem_singleton.1 ha];exact xE
 intro a ha;obtain⟨k,_,rfl⟩:=List.mem_map.1 ha;exact zZJ al h k
theorem zKK:∀(l:List Ans) (a:Ans),AOK a→AOK (l.foldl qM a)
 |[],a,h=>h
 |b::l,a,_=>zKK l _ (zQP a b)
theorem zNT (x:Test) (al:List Ans) (self:Val) (vars:List Bind) :
  (vS x=[]→kX x.s al self vars=zAK x.op (kQ al x.kids.l))∧(∀s,vS x=[(s,x.a)]→kX x.s al self vars=uW (qI s (x.a.l.map Node.s)) self vars) ∧
   (∀s t,vS x=[(s,x.a),(t,x.b)]→kX x.s al self vars=jW (uW (qI s (x.a.l.map Node.s)) self vars) (uW (qI t (x.b.l.map Node.s)) self vars)):=by
 refine⟨fun h=>?_,fun s h=>?_,fun s t h=>?_⟩<;>(unfold kX zMb;rw[zLX,h];rfl)
theorem zVz(x:Test)(al:List Ans)(self:Val)(vars:List Bind)(hx:TOK x)(h:∀a ∈ al,AOK a)(hs:VOK self)(hv:∀b ∈ vars,VOK b.v):AOK (kX x.s al self vars):=by
 have hrest:AOK (zAK x.op (kQ al x.kids.l)):=by
  unfold zAK;have hk:=zOq al h x.kids.l;split
  ·exact⟨zWs.2,by simp⟩
  split
  ·exact zZR _ (zBd hk 0)
  split
  ·exact zKK _ _ (zBd hk 0)
  exact xE
 unfold kX zMb;rw[zLX];rcases zIn x with h1|⟨s,h1⟩|⟨s,t,h1⟩
 ·rw[h1];exact hrest
 ·rw[h1];exact zM5 s x.a self vars hx.a hs hv
 rw[h1];exact zQc _ _
end Go.Ab
