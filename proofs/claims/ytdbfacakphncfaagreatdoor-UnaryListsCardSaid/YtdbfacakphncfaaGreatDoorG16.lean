/- Lemmas. -/
import Derived.Test.YtdbfacakphncfaaGreatDoorG15
set_option maxRecDepth 1000000
set_option maxHeartbeats 4000000
set_option linter.unusedSimpArgs false
set_option linter.unusedVariables false
namespace Go.Ab
open Go.Proofs
theorem zKT(l:List Val)(nl cl:Bool)(hl:l.length<9223372036854775808)(hr:∀v ∈ l,VOK v):∃x:Val,Om CC 42 [.t (.sl nl cl (l.map Val.c))] []=some (.val (.t (.agg [.int .u8 x.k,.int .i64 x.n,.str x.s])),[])∧VOK x:=by
 refine zN yA9 rfl ?_
 (have F_:=c5 zK zO zR zL (c5 zI zH wP yDB (c3 zDk @qZ @zGg));show W CC 0 25 (zE 42) _ ⟨[(0,_)],[]⟩ _)
 (with_reducible repeat' first|apply aA|refine aB ?_|refine aC ?_|refine aD ?_|(first|apply zB|apply zA|apply zC|apply zD)<;>intro hg<;>try with_unfolding_all cases hg;done|refine aE ?_|refine aF ?_|refine aG ?_|refine aH ?_ ?_<;>intro hv<;>try with_unfolding_all cases hv;done)
 refine yS (α:=Nat×Val) (fun a=>⟨[(2,.box 0 0),(3,.box 1 0),(7,.t (.sl nl cl (l.map Val.c))),(8,.t (.int .i64 l.length)),(9,.t (.int .i64 a.1))],[.box (Zero.c.map .t),.box (a.2.c.map .t)]⟩)
  (fun a=>l.length - a.1) (fun a=>a.1≤l.length∧VOK a.2) (0,qC true) (by kernel_rfl) ⟨Nat.zero_le _,zBV _⟩ ?_
 rintro⟨i,out⟩ ⟨hi,ho⟩
 try dsimp only at hi ho
 by_cases hi':i<l.length
 ·have hw:IntKind.i64.wrap ((i:Int)+1)=((i+1:Nat):Int):=by rw[wrap64]<;>omega
  have he:l[i]?=some l[i]:=List.getElem?_eq_getElem hi';have hd:decide ((i:Int)<l.length)=true:=by simpa using hi'
  have hok:=hr l[i] (List.getElem_mem hi');generalize l[i]=v at he hok;clear hr;simp only[Zero]
  (with_reducible repeat' first|apply aA|refine aB ?_|refine aC ?_|refine aD ?_|(first|apply zB|apply zA|apply zC|apply zD)<;>intro hg<;>try with_unfolding_all cases hg;done|refine aE ?_|refine aF ?_|refine aG ?_|refine aH ?_ ?_<;>intro hv<;>try with_unfolding_all cases hv;done)
  all_goals first
   |((refine aJ ?_);exact⟨⟨_,_,_⟩,⟨rfl,rfl⟩,hok⟩)
   |(refine zM (i+1,⟨_,_,_⟩) (by first|omega|(dsimp only;omega)) ⟨by first|omega|(dsimp only;omega),?_⟩ (by exact aTd);first|exact ho|exact xE)
 have hd:decide ((i:Int)<l.length)=false:=by simpa using hi'
 simp only[Zero]
 (with_reducible repeat' first|apply aA|refine aB ?_|refine aC ?_|refine aD ?_|(first|apply zB|apply zA|apply zC|apply zD)<;>intro hg<;>try with_unfolding_all cases hg;done|refine aE ?_|refine aF ?_|refine aG ?_|refine aH ?_ ?_<;>intro hv<;>try with_unfolding_all cases hv;done)
 (refine aJ ?_)
 exact⟨⟨_,_,_⟩,⟨rfl,rfl⟩,ho⟩
theorem zVS(l:List Val)(nl cl:Bool)(hl:l.length<4294967295)(hr:∀v ∈ l,VOK v):∃x:Val,Om CC 44 [.t (.sl nl cl (l.map Val.c))] []=some (.val (.t (.agg [.int .u8 x.k,.int .i64 x.n,.str x.s])),[])∧VOK x:=by
 refine zN zYc rfl ?_
 (have F_:=c5 zK zO zL zI (c5 zH wP yDE zMg (c2 zH6 @zFD));show W CC 0 21 (zE 44) _ ⟨[(0,_)],[]⟩ _)
 (with_reducible repeat' first|apply aA|refine aB ?_|refine aC ?_|refine aD ?_|(first|apply zB|apply zA|apply zC|apply zD)<;>intro hg<;>try with_unfolding_all cases hg;done|refine aE ?_|refine aF ?_|refine aG ?_|refine aH ?_ ?_<;>intro hv<;>try with_unfolding_all cases hv;done)
 refine yS (α:=Nat×Bool×List Val) (fun a=>⟨[(2,.box 0 0),(3,match a.2.1 with|true=>.hs 1 0|false=>.t (.sl true true [])),(6,.t (.sl nl cl (l.map Val.c))),(7,.t (.int .i64 l.length)),(8,.t (.int .i64 a.1))],
   match a.2.1 with|true=>[.box (Zero.c.map .t),.arr 3 0 false (a.2.2.map Val.c)]|false=>[.box (Zero.c.map .t)]⟩)
  (fun a=>l.length - a.1) (fun a=>a.1≤l.length∧a.2.2.length=a.1∧(a.2.1=false→a.2.2=[])∧∀v ∈ a.2.2,VOK v) (0,false,[]) (by kernel_rfl) ⟨Nat.zero_le _,rfl,fun _=>rfl,fun v hv=>by cases hv⟩ ?_
 rintro⟨i,st,out⟩ ⟨hi,ho,hn,hor⟩
 try dsimp only at hi ho hn hor
 have hle:lens 3 (out.map Val.c)=true:=kU Val.c 3 (fun a=>rfl) out
 by_cases hi':i<l.length
 ·have hw:IntKind.i64.wrap ((i:Int)+1)=((i+1:Nat):Int):=by rw[wrap64]<;>omega
  have he:l[i]?=some l[i]:=List.getElem?_eq_getElem hi';have hd:decide ((i:Int)<l.length)=true:=by simpa using hi'
  have hsm:decide (i+1<4294967296)=true:=by simp;omega
  have hs1:True:=trivial;generalize l[i]=v at he;cases st with
  |true =>
   simp only[Zero];clear hr hn
   (with_reducible repeat' first|apply aA|refine aB ?_|refine aC ?_|refine aD ?_|(first|apply zB|apply zA|apply zC|apply zD)<;>intro hg<;>try with_unfolding_all cases hg;done|refine aE ?_|refine aF ?_|refine aG ?_|refine aH ?_ ?_<;>intro hv<;>try with_unfolding_all cases hv;done)
   refine zM (i+1,true,out++[NotV v]) (by first|omega|(dsimp only;omega)) ⟨by first|omega|(dsimp only;omega),by simp [ho],fun h=>(by cases h),fun x hx=>?_⟩ (by(simp only[yD,zU,F_,tidy,xJ,canon,reach,yK,refs,xH,catMap,depth,renL,ren,renO,sub,sub1,upto,mem,place,fresh,cond_true,Ab.get,nth,List.map,List.zip_cons_cons,List.zip_nil_right,List.take,List.append_nil,List.nil_append,List.cons_append,Bool.and_true,yM,decide_true,decide_false,Nat.reduceEqDiff,Val.c,List.map_append]<;>exact rfl));rcases List.mem_append.1 hx with h|h
   ·exact hor x h
   rw[List.mem_singleton.1 h];exact zFL _
  |false =>
   have h0:=hn rfl;subst h0;simp only[Zero];clear hr hor hn
   (with_reducible repeat' first|apply aA|refine aB ?_|refine aC ?_|refine aD ?_|(first|apply zB|apply zA|apply zC|apply zD)<;>intro hg<;>try with_unfolding_all cases hg;done|refine aE ?_|refine aF ?_|refine aG ?_|refine aH ?_ ?_<;>intro hv<;>try with_unfolding_all cases hv;done)
   refine zM (i+1,true,[NotV v]) (by first|omega|(dsimp only;omega)) ⟨by first|omega|(dsimp only;omega),?_,fun h=>(by cases h),fun x hx=>?_⟩ (by(simp only[yD,zU,F_,tidy,xJ,canon,reach,yK,refs,xH,catMap,depth,renL,ren,renO,sub,sub1,upto,mem,place,fresh,cond_true,Ab.get,nth,List.map,List.zip_cons_cons,List.zip_nil_right,List.take,List.append_nil,List.nil_append,List.cons_append,Bool.and_true,yM,decide_true,decide_false,Nat.reduceEqDiff,Val.c]<;>exact rfl))
   ·simp at ho ⊢;omega
   rw[List.mem_singleton.1 hx];exact zFL _
 have hd:decide ((i:Int)<l.length)=false:=by simpa using hi'
 cases st with
 |true =>
  obtain⟨x,hx,hxo⟩:=zKT out false false (by omega) hor;simp only[Zero];clear hr hor
  (with_reducible repeat' first|apply aA|refine aB ?_|refine aC ?_|refine aD ?_|(first|apply zB|apply zA|apply zC|apply zD)<;>intro hg<;>try with_unfolding_all cases hg;done|refine aE ?_|refine aF ?_|refine aG ?_|refine aH ?_ ?_<;>intro hv<;>try with_unfolding_all cases hv;done)
  (refine aJ ?_)
  exact⟨⟨_,_,_⟩,⟨rfl,rfl⟩,zFL _⟩
 |false =>
  obtain⟨x,hx,hxo⟩:=zKT [] true true (by simp) (fun v hv=>by cases hv);simp only[List.map_nil] at hx;simp only[Zero];clear hr hor
  (with_reducible repeat' first|apply aA|refine aB ?_|refine aC ?_|refine aD ?_|(first|apply zB|apply zA|apply zC|apply zD)<;>intro hg<;>try with_unfolding_all cases hg;done|refine aE ?_|refine aF ?_|refine aG ?_|refine aH ?_ ?_<;>intro hv<;>try with_unfolding_all cases hv;done)
  (refine aJ ?_)
  exact⟨⟨_,_,_⟩,⟨rfl,rfl⟩,zFL _⟩
theorem zIK(v:Val):∃x:Val×Int,Om CC 250 [.t (.agg [.int .u8 v.k,.int .i64 v.n,.str v.s])] []=some (.val (.tup [.t (.agg [.int .u8 x.1.k,.int .i64 x.1.n,.str x.1.s]),.t (.int .i64 x.2)]),[])∧(R64 v.n→R64 x.1.n):=by
 refine zN zVB rfl ?_
 (have F_:=c5 zK zL zI zH (c3 yB zY9 (c2 yAh @zSe));show W CC 0 22 (zE 250) _ ⟨[(0,_)],[]⟩ _)
 (with_reducible repeat' first|apply aA|refine aB ?_|refine aC ?_|refine aD ?_|(first|apply zB|apply zA|apply zC|apply zD)<;>intro hg<;>try with_unfolding_all cases hg;done|refine aE ?_|refine aF ?_|refine aG ?_|refine aH ?_ ?_<;>intro hv<;>try with_unfolding_all cases hv;done)
 all_goals refine aJ ?_
 all_goals exact⟨(⟨_,_,_⟩,_),⟨rfl,rfl⟩,by first|exact fun _=>uQ|exact fun h=>h|exact fun _=>zTs _⟩
noncomputable def DecV(v:Val):Val×Int:=(zIK v).choose
theorem zWe(v:Val):Om CC 250 [.t (.agg [.int .u8 v.k,.int .i64 v.n,.str v.s])] []=some (.val (.tup [.t (.agg [.int .u8 (DecV v).1.k,.int .i64 (DecV v).1.n,.str (DecV v).1.s]),.t (.int .i64 (DecV v).2)]),[]):=(zIK v).choose_spec.1
theorem yBb(v:Val):R64 v.n→R64 (DecV v).1.n:=(zIK v).choose_spec.2
theorem zL0(l:List Val)(nl cl:Bool)(hl:l.length<4294967295)(hr:∀v ∈ l,R64 v.n):∃x:Bool×Bool×List Val×Bool×Int,Om CC 215 [.t (.sl nl cl (l.map Val.c))] [] =
   some (.val (.tup [.t (.sl x.1 x.2.1 (x.2.2.1.map Val.c)),.t (.bool x.2.2.2.1),.t (.int .i64 x.2.2.2.2)]),[]) ∧
   (x.2.2.2.1=false→x.2.2.2.2=0→x.2.2.1.length=l.length)∧∀v ∈ x.2.2.1,VOK v:=by
 refine zN zVf rfl ?_
 (have F_:=c5 zK zO zR zL (c5 zI zH yB wP (c5 yBR zRw yB4 @zIH @zWe));show W CC 0 61 (zE 215) _ ⟨[(0,_)],[]⟩ _)
 (with_reducible repeat' first|apply aA|refine aB ?_|refine aC ?_|refine aD ?_|(first|apply zB|apply zA|apply zC|apply zD)<;>intro hg<;>try with_unfolding_all cases hg;done|refine aE ?_|refine aF ?_|refine aG ?_|refine aH ?_ ?_<;>intro hv<;>try with_unfolding_all cases hv;done)
 refine W.mono (Q:=fun e st=>(e=.exit 0∧∃(b:Bool) (k:Int),get st.T 0=.t (.sl nl cl (l.map Val.c))∧get st.T 2=.t (.sl true true [])∧get st.T 3=.t (.bool b)∧get st.T 5=.t (.int .u8 k)∧st.h=[]∧Ab.get st.T 61=.unk) ∨
   (e=.ret∧get st.T 2=.t (.sl true true [])∧get st.T 3=.t (.bool false)∧get st.T 4=.t (.int .i64 8)∧Ab.get st.T 61=.unk)) ?_ ?_
 ·refine yS (α:=Nat×Bool×Int) (fun a=>⟨[(0,.t (.sl nl cl (l.map Val.c))),(2,.t (.sl true true [])),(3,.t (.bool a.2.1)),(5,.t (.int .u8 a.2.2)),(10,.t (.sl nl cl (l.map Val.c))),(11,.t (.int .i64 l.length)),(12,.t (.int .i64 a.1))],[]⟩)
   (fun a=>l.length - a.1) (fun a=>a.1≤l.length) (0,false,1) (by kernel_rfl) (Nat.zero_le _) ?_
  rintro⟨i,b,k⟩ hi
  try dsimp only at hi
  by_cases hi':i<l.length
  ·have hw:IntKind.i64.wrap ((i:Int)+1)=((i+1:Nat):Int):=by rw[wrap64]<;>omega
   have he:l[i]?=some l[i]:=List.getElem?_eq_getElem hi';have hd:decide ((i:Int)<l.length)=true:=by simpa using hi'
   have hok:=hr l[i] (List.getElem_mem hi');generalize l[i]=v at he hok;clear hr
   (with_reducible repeat' first|apply aA|refine aB ?_|refine aC ?_|refine aD ?_|(first|apply zB|apply zA|apply zC|apply zD)<;>intro hg<;>try with_unfolding_all cases hg;done|refine aE ?_|refine aF ?_|refine aG ?_|refine aH ?_ ?_<;>intro hv<;>try with_unfolding_all cases hv;done)
   all_goals first
    |exact .inr ⟨rfl,rfl,rfl,rfl,rfl⟩
    |(refine zM (i+1,_,_) (by first|omega|(dsimp only;omega)) (by first|omega|(dsimp only;omega)) (by exact aTd))
  have hd:decide ((i:Int)<l.length)=false:=by simpa using hi'
  (with_reducible repeat' first|apply aA|refine aB ?_|refine aC ?_|refine aD ?_|(first|apply zB|apply zA|apply zC|apply zD)<;>intro hg<;>try with_unfolding_all cases hg;done|refine aE ?_|refine aF ?_|refine aG ?_|refine aH ?_ ?_<;>intro hv<;>try with_unfolding_all cases hv;done)
  exact .inl ⟨rfl,_,_,rfl,rfl,rfl,rfl,rfl,rfl⟩
 rintro e ⟨T,h⟩ hq;rcases hq with ⟨rfl,b,k,g0,g2,g3,g5,gh,gD⟩|⟨rfl,g2,g3,g4,gD⟩
 ·dsimp only at g0 g2 g3 g5 gh gD;subst gh
  (with_reducible repeat' first|apply aA|refine aB ?_|refine aC ?_|refine aD ?_|(first|apply zB|apply zA|apply zC|apply zD)<;>intro hg<;>try with_unfolding_all cases hg;done|refine aE ?_|refine aF ?_|refine aG ?_|refine aH ?_ ?_<;>intro hv<;>try with_unfolding_all cases hv;done)
  ·(refine aJ ?_ (h0:=by(show yZ 61 _=some [];simp only[yZ,Ab.get,gD])))
   exact⟨(_,_,[],_,_),⟨rfl,rfl⟩,fun h=>(by cases h),fun v hv=>(by cases hv)⟩
  refine yS (α:=Nat×Bool×List Val) (fun a=>⟨[(2,match a.2.1 with|true=>.hs 0 0|false=>.t (.sl true true [])),(5,.t (.int .u8 k)),(36,.t (.sl nl cl (l.map Val.c))),(37,.t (.int .i64 l.length)),(38,.t (.int .i64 a.1))],
    match a.2.1 with|true=>[.arr 3 0 false (a.2.2.map Val.c)]|false=>[]⟩)
   (fun a=>l.length - a.1) (fun a=>a.1≤l.length∧a.2.2.length=a.1∧(a.2.1=false→a.2.2=[])∧∀v ∈ a.2.2,VOK v) (0,false,[]) (by(simp only[yD,zU,F_,tidy,xJ,canon,reach,yK,refs,catMap,depth,renL,ren,sub,sub1,upto,mem,place,fresh,Ab.get,nth,List.map,List.zip_cons_cons,List.zip_nil_right,List.take,List.append_nil,yM,decide_true,decide_false,Nat.reduceEqDiff,g2,g5,gD]<;>exact rfl)) ⟨Nat.zero_le _,rfl,fun _=>rfl,fun v hv=>(by cases hv)⟩ ?_
  clear g0 g2 g3 g5 gD;rintro⟨i,st,out⟩ ⟨hi,ho,hn,hor⟩
  try dsimp only at hi ho hn hor
  have hle:lens 3 (out.map Val.c)=true:=kU Val.c 3 (fun a=>rfl) out
  by_cases hi':i<l.length
  ·have hw:IntKind.i64.wrap ((i:Int)+1)=((i+1:Nat):Int):=by rw[wrap64]<;>omega
   have he:l[i]?=some l[i]:=List.getElem?_eq_getElem hi';have hd:decide ((i:Int)<l.length)=true:=by simpa using hi'
   have hsm:decide (i+1<4294967296)=true:=by simp;omega
   have hok:=hr l[i] (List.getElem_mem hi');generalize l[i]=v at he hok;have hdk:=yBb v hok;cases st with
   |true =>
    clear hr hn
    (with_reducible repeat' first|apply aA|refine aB ?_|refine aC ?_|refine aD ?_|(first|apply zB|apply zA|apply zC|apply zD)<;>intro hg<;>try with_unfolding_all cases hg;done|refine aE ?_|refine aF ?_|refine aG ?_|refine aH ?_ ?_<;>intro hv<;>try with_unfolding_all cases hv;done)
    all_goals first
     |((refine aJ ?_);exact⟨(_,_,[],_,_),⟨rfl,rfl⟩,fun _ h0=>(by rw[h0] at hv;cases hv),fun v hv=>(by cases hv)⟩)
     |(
       refine zM (i+1,true,out++[⟨_,_,_⟩]) (by first|omega|(dsimp only;omega)) ⟨by first|omega|(dsimp only;omega),by simp [ho],fun h=>(by cases h),fun x hx=>?_⟩ (by(simp only[yD,zU,F_,tidy,xJ,canon,reach,yK,refs,xH,catMap,depth,renL,ren,renO,sub,sub1,upto,mem,place,fresh,cond_true,Ab.get,nth,List.map,List.zip_cons_cons,List.zip_nil_right,List.take,List.append_nil,List.nil_append,Bool.and_true,yM,decide_true,decide_false,Nat.reduceEqDiff,Val.c,List.map_append]<;>exact rfl));rcases List.mem_append.1 hx with h|h
       ·exact hor x h
       rw[List.mem_singleton.1 h];first|exact xI _ hdk|exact xI _ hok)
   |false =>
    have h0:=hn rfl;subst h0;clear hr hor hn;simp at ho;subst ho
    (with_reducible repeat' first|apply aA|refine aB ?_|refine aC ?_|refine aD ?_|(first|apply zB|apply zA|apply zC|apply zD)<;>intro hg<;>try with_unfolding_all cases hg;done|refine aE ?_|refine aF ?_|refine aG ?_|refine aH ?_ ?_<;>intro hv<;>try with_unfolding_all cases hv;done)
    all_goals first
     |((refine aJ ?_);exact⟨(_,_,[],_,_),⟨rfl,rfl⟩,fun _ h0=>(by rw[h0] at hv;cases hv),fun v hv=>(by cases hv)⟩)
     |(
       refine zM (1,true,[⟨_,_,_⟩]) (by first|omega|(dsimp only;omega)) ⟨by first|omega|(dsimp only;omega),by simp,fun h=>(by cases h),fun x hx=>?_⟩ (by(simp only[yD,zU,F_,tidy,xJ,canon,reach,yK,refs,xH,catMap,depth,renL,ren,renO,sub,sub1,upto,mem,place,fresh,cond_true,Ab.get,nth,List.map,List.zip_cons_cons,List.zip_nil_right,List.take,List.append_nil,List.nil_append,Bool.and_true,yM,decide_true,decide_false,Nat.reduceEqDiff,Val.c]<;>exact rfl));rw[List.mem_singleton.1 hx];first|exact xI _ hdk|exact xI _ hok)
  have hd:decide ((i:Int)<l.length)=false:=by simpa using hi'
  cases st with
  |true =>
   (with_reducible repeat' first|apply aA|refine aB ?_|refine aC ?_|refine aD ?_|(first|apply zB|apply zA|apply zC|apply zD)<;>intro hg<;>try with_unfolding_all cases hg;done|refine aE ?_|refine aF ?_|refine aG ?_|refine aH ?_ ?_<;>intro hv<;>try with_unfolding_all cases hv;done)
   (refine aJ ?_)
   exact⟨(_,_,out,_,_),⟨rfl,rfl⟩,fun _ _=>(by dsimp only;omega),hor⟩
  |false =>
   have h0:=hn rfl;subst h0;simp at ho
   (with_reducible repeat' first|apply aA|refine aB ?_|refine aC ?_|refine aD ?_|(first|apply zB|apply zA|apply zC|apply zD)<;>intro hg<;>try with_unfolding_all cases hg;done|refine aE ?_|refine aF ?_|refine aG ?_|refine aH ?_ ?_<;>intro hv<;>try with_unfolding_all cases hv;done)
   (refine aJ ?_)
   exact⟨(_,_,[],_,_),⟨rfl,rfl⟩,fun _ _=>(by simp;omega),fun v hv=>(by cases hv)⟩
 dsimp only at g2 g3 g4 gD
 (with_reducible repeat' first|apply aA|refine aB ?_|refine aC ?_|refine aD ?_|(first|apply zB|apply zA|apply zC|apply zD)<;>intro hg<;>try with_unfolding_all cases hg;done|refine aE ?_|refine aF ?_|refine aG ?_|refine aH ?_ ?_<;>intro hv<;>try with_unfolding_all cases hv;done)
 (refine aJ ?_ (h0:=by(show yZ 61 _=some [];simp only[yZ,gD])))
 exact⟨(_,_,[],_,_),⟨rfl,rfl⟩,fun _ h0=>(by cases h0),fun v hv=>(by cases hv)⟩
theorem zKz(n e:Int)(nl cl:Bool)(v:Val)(l:List Val)(hn:R64 n):∃x:Val×Int,Om CC 216 [.t (.int .i64 n),.t (.int .i64 e),.box 0 0] [.box [.t (.sl nl cl ([.int .u8 v.k,.int .i64 v.n,.str v.s]::l.map Val.c))]] =
  some (.val (.tup [.t (.agg [.int .u8 x.1.k,.int .i64 x.1.n,.str x.1.s]),.t (.int .i64 x.2)]),[.box [.t (.sl nl cl ([.int .u8 v.k,.int .i64 v.n,.str v.s]::l.map Val.c))]])∧VOK x.1:=by
 refine jS zU3 rfl ?_
 (have F_:=c5 zK zL zI zH (c3 yB wP (c2 yAD @qV));show W CC 1 17 (zE 216) _ ⟨[(0,_),(1,_),(2,_)],[_]⟩ _)
 (with_reducible repeat' first|apply aA|refine aB ?_|refine aC ?_|refine aD ?_|(first|apply zB|apply zA|apply zC|apply zD)<;>intro hg<;>try with_unfolding_all cases hg;done|refine aE ?_|refine aF ?_|refine aG ?_|refine aH ?_ ?_<;>intro hv<;>try with_unfolding_all cases hv;done)
 all_goals refine aJ ?_
 all_goals first|exact⟨(⟨0,0,[]⟩,_),⟨rfl,rfl⟩,xE⟩|exact⟨(⟨v.k,n,[]⟩,0),⟨rfl,rfl⟩,xI _ hn⟩
open Classical in
noncomputable def DoS(n e:Int)(nl cl:Bool)(v:Val)(l:List Val):Val×Int:=if hn:R64 n then (zKz n e nl cl v l hn).choose else (Zero,0)
theorem yCM(n e:Int)(nl cl:Bool)(k m:Int)(s:List Nat)(l:List Val)(hn:R64 n):Om CC 216 [.t (.int .i64 n),.t (.int .i64 e),.box 0 0] [.box [.t (.sl nl cl ([.int .u8 k,.int .i64 m,.str s]::l.map Val.c))]] =
  some (.val (.tup [.t (.agg [.int .u8 (DoS n e nl cl ⟨k,m,s⟩ l).1.k,.int .i64 (DoS n e nl cl ⟨k,m,s⟩ l).1.n,.str (DoS n e nl cl ⟨k,m,s⟩ l).1.s]),.t (.int .i64 (DoS n e nl cl ⟨k,m,s⟩ l).2)]),[.box [.t (.sl nl cl ([.int .u8 k,.int .i64 m,.str s]::l.map Val.c))]]):=by
 unfold DoS;rw[dif_pos hn];exact(zKz n e nl cl ⟨k,m,s⟩ l hn).choose_spec.1
theorem yDj(n e:Int)(nl cl:Bool)(v:Val)(l:List Val):VOK (DoS n e nl cl v l).1:=by
 unfold DoS;split
 ·rename_i h;exact(zKz n e nl cl v l h).choose_spec.2
 exact xE
theorem zCQ{α:Type}(a b:α)(l:List α):idx (a::b::l) 1=some b:=rfl
theorem zJU (f g:Nat) (hbf:zF Tryz.prog f=true) (hbfp:∀x,CC.prim f x=none) (hbg:zF Tryz.prog g=true) (hbgp:∀x,CC.prim g x=none) (F G:Int→Int→Int×Int)
  (hf:∀x y,R64 x→R64 y→Om CC f [.t (.int .i64 x),.t (.int .i64 y)] []=some (.val (.tup [.t (.int .i64 (F x y).1),.t (.int .i64 (F x y).2)]),[]))
  (hg:∀x y,R64 x→R64 y→Om CC g [.t (.int .i64 x),.t (.int .i64 y)] []=some (.val (.tup [.t (.int .i64 (G x y).1),.t (.int .i64 (G x y).2)]),[]))
  (hfr:∀x y,R64 (F x y).1) (hgr:∀x y,R64 (G x y).1) (a b:Val) (ha:R64 a.n) (hb:R64 b.n) :
  ∃x:Val×Int,Om CC 174 [.t (.agg [.int .u8 a.k,.int .i64 a.n,.str a.s]),.t (.agg [.int .u8 b.k,.int .i64 b.n,.str b.s]),.t (.fn f),.t (.fn g)] [] =
   some (.val (.tup [.t (.agg [.int .u8 x.1.k,.int .i64 x.1.n,.str x.1.s]),.t (.int .i64 x.2)]),[])∧VOK x.1:=by
 refine zN zVi rfl ?_
 (have F_:=c5 zK zL zI zH (c5 yB wP zGF yBy (c3 zQo zZY (c2 @qV @zCQ)));show W CC 0 54 (zE 174) _ ⟨[(0,_),(1,_),(2,_),(3,_)],[]⟩ _)
 obtain⟨⟨anl,acl,out,null,e⟩,hal,hlen,hok⟩:=zL0 [a,b] false false (by simp) (fun v hv=>by
  rcases List.mem_cons.1 hv with rfl|hv
  ·exact ha
  rw[List.mem_singleton.1 hv];exact hb)
 dsimp only at hal hlen hok;simp only[List.map_cons,List.map_nil,Val.c] at hal;clear ha hb;cases null with
 |true =>
  clear hf hg hfr hgr hlen hok
  (with_reducible repeat' first|apply aA|refine aB ?_|refine aC ?_|refine aD ?_|(first|apply zB|apply zA|apply zC|apply zD)<;>intro hg<;>try with_unfolding_all cases hg;done|refine aE ?_|refine aF ?_|refine aG ?_|refine aH ?_ ?_<;>intro hv<;>try with_unfolding_all cases hv;done)
  all_goals refine aJ ?_
  all_goals exact⟨(⟨0,0,[]⟩,_),⟨rfl,rfl⟩,xE⟩
 |false =>
  by_cases he:e=0
  ·subst he;have h2:=hlen rfl rfl;obtain⟨x,y,rfl⟩:∃x y,out=[x,y]:=by
    match out,h2 with
    |[x,y],_=>exact⟨x,y,rfl⟩
   have hx:R64 x.n:=(hok x (by simp)).1;have hy:R64 y.n:=(hok y (by simp)).1;simp only[List.map_cons,List.map_nil,Val.c] at hal;have hf':=hf x.n y.n hx hy;have hg':=hg x.n y.n hx hy;have hs1:∀(n e:Int) (nl cl:Bool) (hn:R64 n),Om CC 216 [.t (.int .i64 n),.t (.int .i64 e),.box 0 0] [.box [.t (.sl nl cl [[.int .u8 x.k,.int .i64 x.n,.str x.s],[.int .u8 y.k,.int .i64 y.n,.str y.s]])]]=_:=fun n e nl cl hn=>yCM n e nl cl x.k x.n x.s [y] hn
   have hf1:=hs1 _ (F x.n y.n).2 anl acl (hfr x.n y.n);have hg1:=hs1 _ (G x.n y.n).2 anl acl (hgr x.n y.n);simp only[List.map_cons,List.map_nil,Val.c] at hf1 hg1;clear hf hg hlen hok hs1 hfr hgr hx hy h2
   (with_reducible repeat' first|apply aA|refine aB ?_|refine aC ?_|refine aD ?_|(first|apply zB|apply zA|apply zC|apply zD)<;>intro hg<;>try with_unfolding_all cases hg;done|refine aE ?_|refine aF ?_|refine aG ?_|refine aH ?_ ?_<;>intro hv<;>try with_unfolding_all cases hv;done)
   all_goals refine aJ ?_
   all_goals exact⟨(⟨_,_,_⟩,_),⟨rfl,rfl⟩,yDj _ _ _ _ _ _⟩
  have hne:(e != 0)=true:=by simpa using he
  clear hf hg hfr hgr hlen hok
  (with_reducible repeat' first|apply aA|refine aB ?_|refine aC ?_|refine aD ?_|(first|apply zB|apply zA|apply zC|apply zD)<;>intro hg<;>try with_unfolding_all cases hg;done|refine aE ?_|refine aF ?_|refine aG ?_|refine aH ?_ ?_<;>intro hv<;>try with_unfolding_all cases hv;done)
  all_goals refine aJ ?_
  all_goals exact⟨(⟨0,0,[]⟩,_),⟨rfl,rfl⟩,xE⟩
theorem zIJ(a b:Val)(ha:R64 a.n)(hb:R64 b.n):∃x:Val×Int,Om CC 174 [.t (.agg [.int .u8 a.k,.int .i64 a.n,.str a.s]),.t (.agg [.int .u8 b.k,.int .i64 b.n,.str b.s]),.t (.fn 175),.t (.fn 175)] []=some (.val (.tup [.t (.agg [.int .u8 (x).1.k,.int .i64 (x).1.n,.str (x).1.s]),.t (.int .i64 (x).2)]),[])∧VOK x.1 :=
 zJU _ _ zQb (fun x=>zZ _ x (by decide)) zQb (fun x=>zZ _ x (by decide)) NAdd NAdd (fun x y _ hy=>zOF x y) (fun x y _ hy=>zOF x y) zRs zRs a b ha hb
open Classical in
noncomputable def zE8(a b:Val):Val×Int:=if h:R64 a.n∧R64 b.n then (zIJ a b h.1 h.2).choose else (Zero,0)
theorem zTN(k n:Int)(s:List Nat)(k' n':Int)(s':List Nat)(h:R64 n)(h':R64 n'):Om CC 174 [.t (.agg [.int .u8 k,.int .i64 n,.str s]),.t (.agg [.int .u8 k',.int .i64 n',.str s']),.t (.fn 175),.t (.fn 175)] []=some (.val (.tup [.t (.agg [.int .u8 (zE8 ⟨k,n,s⟩ ⟨k',n',s'⟩).1.k,.int .i64 (zE8 ⟨k,n,s⟩ ⟨k',n',s'⟩).1.n,.str (zE8 ⟨k,n,s⟩ ⟨k',n',s'⟩).1.s]),.t (.int .i64 (zE8 ⟨k,n,s⟩ ⟨k',n',s'⟩).2)]),[]):=by
 unfold zE8;have hh:R64 (⟨k,n,s⟩:Val).n∧R64 (⟨k',n',s'⟩:Val).n:=⟨h,h'⟩
 rw[dif_pos hh];exact(zIJ ⟨k,n,s⟩ ⟨k',n',s'⟩ h h').choose_spec.1
theorem zVp(a b:Val):VOK (zE8 a b).1:=by
 unfold zE8;split
 ·rename_i h;exact(zIJ a b h.1 h.2).choose_spec.2
 exact xE
theorem zTk(a b:Val)(ha:R64 a.n)(hb:R64 b.n):∃x:Val×Int,Om CC 129 [.t (.agg [.int .u8 a.k,.int .i64 a.n,.str a.s]),.t (.agg [.int .u8 b.k,.int .i64 b.n,.str b.s])] []=some (.val (.tup [.t (.agg [.int .u8 (x).1.k,.int .i64 (x).1.n,.str (x).1.s]),.t (.int .i64 (x).2)]),[])∧VOK x.1:=by
 refine zN zVT rfl ?_
 (have F_:=c5 zK zL zI zH (c3 zGF zZc (c2 zJc @zTN));show W CC 0 11 (zE 129) _ ⟨[(0,_),(1,_)],[]⟩ _)
 (with_reducible repeat' first|apply aA|refine aB ?_|refine aC ?_|refine aD ?_|(first|apply zB|apply zA|apply zC|apply zD)<;>intro hg<;>try with_unfolding_all cases hg;done|refine aE ?_|refine aF ?_|refine aG ?_|refine aH ?_ ?_<;>intro hv<;>try with_unfolding_all cases hv;done)
 all_goals refine aJ ?_
 all_goals exact⟨zE8 a b,⟨rfl,rfl⟩,zVp a b⟩
theorem zIU(a b:Val)(ha:R64 a.n)(hb:R64 b.n):∃x:Val×Int,Om CC 174 [.t (.agg [.int .u8 a.k,.int .i64 a.n,.str a.s]),.t (.agg [.int .u8 b.k,.int .i64 b.n,.str b.s]),.t (.fn 176),.t (.fn 176)] []=some (.val (.tup [.t (.agg [.int .u8 (x).1.k,.int .i64 (x).1.n,.str (x).1.s]),.t (.int .i64 (x).2)]),[])∧VOK x.1 :=
 zJU _ _ zRe (fun x=>zZ _ x (by decide)) zRe (fun x=>zZ _ x (by decide)) NSub NSub (fun x y _ hy=>zN9 x y) (fun x y _ hy=>zN9 x y) zRt zRt a b ha hb
open Classical in
noncomputable def zEP(a b:Val):Val×Int:=if h:R64 a.n∧R64 b.n then (zIU a b h.1 h.2).choose else (Zero,0)
theorem zS9(k n:Int)(s:List Nat)(k' n':Int)(s':List Nat)(h:R64 n)(h':R64 n'):Om CC 174 [.t (.agg [.int .u8 k,.int .i64 n,.str s]),.t (.agg [.int .u8 k',.int .i64 n',.str s']),.t (.fn 176),.t (.fn 176)] []=some (.val (.tup [.t (.agg [.int .u8 (zEP ⟨k,n,s⟩ ⟨k',n',s'⟩).1.k,.int .i64 (zEP ⟨k,n,s⟩ ⟨k',n',s'⟩).1.n,.str (zEP ⟨k,n,s⟩ ⟨k',n',s'⟩).1.s]),.t (.int .i64 (zEP ⟨k,n,s⟩ ⟨k',n',s'⟩).2)]),[]):=by
 unfold zEP;have hh:R64 (⟨k,n,s⟩:Val).n∧R64 (⟨k',n',s'⟩:Val).n:=⟨h,h'⟩
 rw[dif_pos hh];exact(zIU ⟨k,n,s⟩ ⟨k',n',s'⟩ h h').choose_spec.1
theorem zWN(a b:Val):VOK (zEP a b).1:=by
 unfold zEP;split
 ·rename_i h;exact(zIU a b h.1 h.2).choose_spec.2
 exact xE
theorem zGj(a b:Val)(ha:R64 a.n)(hb:R64 b.n):∃x:Val×Int,Om CC 130 [.t (.agg [.int .u8 a.k,.int .i64 a.n,.str a.s]),.t (.agg [.int .u8 b.k,.int .i64 b.n,.str b.s])] []=some (.val (.tup [.t (.agg [.int .u8 (x).1.k,.int .i64 (x).1.n,.str (x).1.s]),.t (.int .i64 (x).2)]),[])∧VOK x.1:=by
 refine zN zVG rfl ?_
 (have F_:=c5 zK zL zI zH (c3 zGF yBS (c2 zJc @zS9));show W CC 0 11 (zE 130) _ ⟨[(0,_),(1,_)],[]⟩ _)
 (with_reducible repeat' first|apply aA|refine aB ?_|refine aC ?_|refine aD ?_|(first|apply zB|apply zA|apply zC|apply zD)<;>intro hg<;>try with_unfolding_all cases hg;done|refine aE ?_|refine aF ?_|refine aG ?_|refine aH ?_ ?_<;>intro hv<;>try with_unfolding_all cases hv;done)
 all_goals refine aJ ?_
 all_goals exact⟨zEP a b,⟨rfl,rfl⟩,zWN a b⟩
open Classical in
noncomputable def VSub(a b:Val):Val×Int:=if h:R64 a.n∧R64 b.n then (zGj a b h.1 h.2).choose else (Zero,0)
theorem zWP(k n:Int)(s:List Nat)(k' n':Int)(s':List Nat)(h:R64 n)(h':R64 n'):Om CC 130 [.t (.agg [.int .u8 k,.int .i64 n,.str s]),.t (.agg [.int .u8 k',.int .i64 n',.str s'])] []=some (.val (.tup [.t (.agg [.int .u8 (VSub ⟨k,n,s⟩ ⟨k',n',s'⟩).1.k,.int .i64 (VSub ⟨k,n,s⟩ ⟨k',n',s'⟩).1.n,.str (VSub ⟨k,n,s⟩ ⟨k',n',s'⟩).1.s]),.t (.int .i64 (VSub ⟨k,n,s⟩ ⟨k',n',s'⟩).2)]),[]):=by
 unfold VSub;have hh:R64 (⟨k,n,s⟩:Val).n∧R64 (⟨k',n',s'⟩:Val).n:=⟨h,h'⟩
 rw[dif_pos hh];exact(zGj ⟨k,n,s⟩ ⟨k',n',s'⟩ h h').choose_spec.1
theorem zZr(a b:Val):VOK (VSub a b).1:=by
 unfold VSub;split
 ·rename_i h;exact(zGj a b h.1 h.2).choose_spec.2
 exact xE
theorem zIR(a b:Val)(ha:R64 a.n)(hb:R64 b.n):∃x:Val×Int,Om CC 174 [.t (.agg [.int .u8 a.k,.int .i64 a.n,.str a.s]),.t (.agg [.int .u8 b.k,.int .i64 b.n,.str b.s]),.t (.fn 177),.t (.fn 178)] []=some (.val (.tup [.t (.agg [.int .u8 (x).1.k,.int .i64 (x).1.n,.str (x).1.s]),.t (.int .i64 (x).2)]),[])∧VOK x.1 :=
 zJU _ _ zP5 (fun x=>zZ _ x (by decide)) yAd (fun x=>zZ _ x (by decide)) NMul zHS (fun x y _ hy=>zOu x y) (fun x y _ hy=>zPd x y) zRa zSC a b ha hb
open Classical in
noncomputable def zE5(a b:Val):Val×Int:=if h:R64 a.n∧R64 b.n then (zIR a b h.1 h.2).choose else (Zero,0)
theorem zT8(k n:Int)(s:List Nat)(k' n':Int)(s':List Nat)(h:R64 n)(h':R64 n'):Om CC 174 [.t (.agg [.int .u8 k,.int .i64 n,.str s]),.t (.agg [.int .u8 k',.int .i64 n',.str s']),.t (.fn 177),.t (.fn 178)] []=some (.val (.tup [.t (.agg [.int .u8 (zE5 ⟨k,n,s⟩ ⟨k',n',s'⟩).1.k,.int .i64 (zE5 ⟨k,n,s⟩ ⟨k',n',s'⟩).1.n,.str (zE5 ⟨k,n,s⟩ ⟨k',n',s'⟩).1.s]),.t (.int .i64 (zE5 ⟨k,n,s⟩ ⟨k',n',s'⟩).2)]),[]):=by
 unfold zE5;have hh:R64 (⟨k,n,s⟩:Val).n∧R64 (⟨k',n',s'⟩:Val).n:=⟨h,h'⟩
 rw[dif_pos hh];exact(zIR ⟨k,n,s⟩ ⟨k',n',s'⟩ h h').choose_spec.1
theorem zWz(a b:Val):VOK (zE5 a b).1:=by
 unfold zE5;split
 ·rename_i h;exact(zIR a b h.1 h.2).choose_spec.2
 exact xE
theorem zS0(a b:Val)(ha:R64 a.n)(hb:R64 b.n):∃x:Val×Int,Om CC 131 [.t (.agg [.int .u8 a.k,.int .i64 a.n,.str a.s]),.t (.agg [.int .u8 b.k,.int .i64 b.n,.str b.s])] []=some (.val (.tup [.t (.agg [.int .u8 (x).1.k,.int .i64 (x).1.n,.str (x).1.s]),.t (.int .i64 (x).2)]),[])∧VOK x.1:=by
 refine zN zVk rfl ?_
 (have F_:=c5 zK zL zI zH (c3 zGF yBF (c2 zJc @zT8));show W CC 0 11 (zE 131) _ ⟨[(0,_),(1,_)],[]⟩ _)
 (with_reducible repeat' first|apply aA|refine aB ?_|refine aC ?_|refine aD ?_|(first|apply zB|apply zA|apply zC|apply zD)<;>intro hg<;>try with_unfolding_all cases hg;done|refine aE ?_|refine aF ?_|refine aG ?_|refine aH ?_ ?_<;>intro hv<;>try with_unfolding_all cases hv;done)
 all_goals refine aJ ?_
 all_goals exact⟨zE5 a b,⟨rfl,rfl⟩,zWz a b⟩
theorem zIL(a b:Val)(ha:R64 a.n)(hb:R64 b.n):∃x:Val×Int,Om CC 174 [.t (.agg [.int .u8 a.k,.int .i64 a.n,.str a.s]),.t (.agg [.int .u8 b.k,.int .i64 b.n,.str b.s]),.t (.fn 179),.t (.fn 180)] []=some (.val (.tup [.t (.agg [.int .u8 (x).1.k,.int .i64 (x).1.n,.str (x).1.s]),.t (.int .i64 (x).2)]),[])∧VOK x.1 :=
 zJU _ _ yAs (fun x=>zZ _ x (by decide)) zYF (fun x=>zZ _ x (by decide)) NQuo zH5 (fun x y _ hy=>zVr x y hy) (fun x y _ hy=>zO8 x y) yBX zQe a b ha hb
open Classical in
noncomputable def zEJ(a b:Val):Val×Int:=if h:R64 a.n∧R64 b.n then (zIL a b h.1 h.2).choose else (Zero,0)
theorem zTW(k n:Int)(s:List Nat)(k' n':Int)(s':List Nat)(h:R64 n)(h':R64 n'):Om CC 174 [.t (.agg [.int .u8 k,.int .i64 n,.str s]),.t (.agg [.int .u8 k',.int .i64 n',.str s']),.t (.fn 179),.t (.fn 180)] []=some (.val (.tup [.t (.agg [.int .u8 (zEJ ⟨k,n,s⟩ ⟨k',n',s'⟩).1.k,.int .i64 (zEJ ⟨k,n,s⟩ ⟨k',n',s'⟩).1.n,.str (zEJ ⟨k,n,s⟩ ⟨k',n',s'⟩).1.s]),.t (.int .i64 (zEJ ⟨k,n,s⟩ ⟨k',n',s'⟩).2)]),[]):=by
 unfold zEJ;have hh:R64 (⟨k,n,s⟩:Val).n∧R64 (⟨k',n',s'⟩:Val).n:=⟨h,h'⟩
 rw[dif_pos hh];exact(zIL ⟨k,n,s⟩ ⟨k',n',s'⟩ h h').choose_spec.1
theorem zVm(a b:Val):VOK (zEJ a b).1:=by
 unfold zEJ;split
 ·rename_i h;exact(zIL a b h.1 h.2).choose_spec.2
 exact xE
theorem zSP(a b:Val)(ha:R64 a.n)(hb:R64 b.n):∃x:Val×Int,Om CC 132 [.t (.agg [.int .u8 a.k,.int .i64 a.n,.str a.s]),.t (.agg [.int .u8 b.k,.int .i64 b.n,.str b.s])] []=some (.val (.tup [.t (.agg [.int .u8 (x).1.k,.int .i64 (x).1.n,.str (x).1.s]),.t (.int .i64 (x).2)]),[])∧VOK x.1:=by
 refine zN zXa rfl ?_
 (have F_:=c5 zK zL zI zH (c3 zGF zXY (c2 zJc @zTW));show W CC 0 11 (zE 132) _ ⟨[(0,_),(1,_)],[]⟩ _)
 (with_reducible repeat' first|apply aA|refine aB ?_|refine aC ?_|refine aD ?_|(first|apply zB|apply zA|apply zC|apply zD)<;>intro hg<;>try with_unfolding_all cases hg;done|refine aE ?_|refine aF ?_|refine aG ?_|refine aH ?_ ?_<;>intro hv<;>try with_unfolding_all cases hv;done)
 all_goals refine aJ ?_
 all_goals exact⟨zEJ a b,⟨rfl,rfl⟩,zVm a b⟩
theorem zI5(a:Val)(ha:R64 a.n):∃x:Val×Int,Om CC 136 [.t (.agg [.int .u8 a.k,.int .i64 a.n,.str a.s])] []=some (.val (.tup [.t (.agg [.int .u8 (x).1.k,.int .i64 (x).1.n,.str (x).1.s]),.t (.int .i64 (x).2)]),[])∧VOK x.1:=by
 refine zN zU2 rfl ?_
 (have F_:=c5 zK zL zI zH (c3 yBf zQT (c2 @zWP @uQ));show W CC 0 13 (zE 136) _ ⟨[(0,_)],[]⟩ _)
 (with_reducible repeat' first|apply aA|refine aB ?_|refine aC ?_|refine aD ?_|(first|apply zB|apply zA|apply zC|apply zD)<;>intro hg<;>try with_unfolding_all cases hg;done|refine aE ?_|refine aF ?_|refine aG ?_|refine aH ?_ ?_<;>intro hv<;>try with_unfolding_all cases hv;done)
 all_goals refine aJ ?_
 all_goals exact⟨VSub ⟨_,_,_⟩ a,⟨rfl,rfl⟩,zZr _ a⟩
open Classical in
noncomputable def VNeg(a:Val):Val×Int:=if h:R64 a.n then (zI5 a h).choose else (Zero,0)
theorem zOt(k n:Int)(s:List Nat)(h:R64 n):Om CC 136 [.t (.agg [.int .u8 k,.int .i64 n,.str s])] []=some (.val (.tup [.t (.agg [.int .u8 (VNeg ⟨k,n,s⟩).1.k,.int .i64 (VNeg ⟨k,n,s⟩).1.n,.str (VNeg ⟨k,n,s⟩).1.s]),.t (.int .i64 (VNeg ⟨k,n,s⟩).2)]),[]):=by
 unfold VNeg;have hh:R64 (⟨k,n,s⟩:Val).n:=h;rw[dif_pos hh];exact(zI5 ⟨k,n,s⟩ h).choose_spec.1
theorem zQn(a:Val):VOK (VNeg a).1:=by
 unfold VNeg;split
 ·rename_i h;exact(zI5 a h).choose_spec.2
 exact xE
theorem zLi(c:Int)(l:List Val)(nl cl:Bool)(hl:l.length<4294967295)(hr:∀v ∈ l,R64 v.n):∃x:Val×Int,Om CC 181 [.t (.int .i64 c),.t (.sl nl cl (l.map Val.c))] []=some (.val (.tup [.t (.agg [.int .u8 (x).1.k,.int .i64 (x).1.n,.str (x).1.s]),.t (.int .i64 (x).2)]),[])∧VOK x.1:=by
 refine zN zWQ rfl ?_
 (have F_:=c5 zK zO zL zI (c5 zH yB wP zXJ (c3 zQo zQ0 (c2 @qV @zLn)));show W CC 0 49 (zE 181) _ ⟨[(0,_),(1,_)],[]⟩ _)
 obtain⟨⟨anl,acl,out,null,e⟩,hal,hlen,hok⟩:=zL0 l nl cl hl hr;dsimp only at hal hlen hok;clear hr;cases null with
 |true =>
  clear hlen hok
  (with_reducible repeat' first|apply aA|refine aB ?_|refine aC ?_|refine aD ?_|(first|apply zB|apply zA|apply zC|apply zD)<;>intro hg<;>try with_unfolding_all cases hg;done|refine aE ?_|refine aF ?_|refine aG ?_|refine aH ?_ ?_<;>intro hv<;>try with_unfolding_all cases hv;done)
  all_goals refine aJ ?_
  all_goals exact⟨(⟨0,0,[]⟩,_),⟨rfl,rfl⟩,xE⟩
 |false =>
  by_cases he:e=0
  ·subst he;have h2:=hlen rfl rfl;clear hlen;cases out with
   |nil =>
    simp only[List.map_nil] at hal;clear hok h2
    (with_reducible repeat' first|apply aA|refine aB ?_|refine aC ?_|refine aD ?_|(first|apply zB|apply zA|apply zC|apply zD)<;>intro hg<;>try with_unfolding_all cases hg;done|refine aE ?_|refine aF ?_|refine aG ?_|refine aH ?_ ?_<;>intro hv<;>try with_unfolding_all cases hv;done)
    all_goals refine aJ ?_
    all_goals exact⟨(⟨0,0,[]⟩,_),⟨rfl,rfl⟩,xE⟩
   |cons v0 rest =>
    have hlr:rest.length+1<4294967295:=by simp at h2;omega
    have hne:(((rest.length+1:Nat):Int)==0)=false:=by simp;omega
    have h0:=hok v0 (by simp);clear h2;simp only[List.map_cons] at hal
    (with_reducible repeat' first|apply aA|refine aB ?_|refine aC ?_|refine aD ?_|(first|apply zB|apply zA|apply zC|apply zD)<;>intro hg<;>try with_unfolding_all cases hg;done|refine aE ?_|refine aF ?_|refine aG ?_|refine aH ?_ ?_<;>intro hv<;>try with_unfolding_all cases hv;done)
    refine yS (α:=Nat×Val) (fun a=>⟨[(0,.t (.int .i64 c)),(4,.box 0 0),(9,.box 1 0),(33,.t (.sl anl acl ((v0::rest).map Val.c))),(34,.t (.int .i64 (rest.length+1:Nat))),(35,.t (.int .i64 a.1))],[.box (Zero.c.map .t),.box (a.2.c.map .t)]⟩)
     (fun a=>rest.length+1 - a.1) (fun a=>a.1≤rest.length+1∧VOK a.2) (0,v0) (by kernel_rfl) ⟨Nat.zero_le _,h0⟩ ?_
    clear hal hne h0;rintro⟨i,o⟩ ⟨hi,ho⟩
    try dsimp only at hi ho
    by_cases hi':i<rest.length+1
    ·have hw:IntKind.i64.wrap ((i:Int)+1)=((i+1:Nat):Int):=by rw[wrap64]<;>omega
     have hi2:i<(v0::rest).length:=by simpa using hi'
     have he:(v0::rest)[i]?=some (v0::rest)[i]:=List.getElem?_eq_getElem hi2;have hd:decide ((i:Int)<((rest.length+1:Nat):Int))=true:=by simp;omega
     have hv0:=hok (v0::rest)[i] (List.getElem_mem hi2);generalize (v0::rest)[i]=v at he hv0;generalize hL:v0::rest=L at *;clear hok;simp only[Zero]
     (with_reducible repeat' first|apply aA|refine aB ?_|refine aC ?_|refine aD ?_|(first|apply zB|apply zA|apply zC|apply zD)<;>intro hg<;>try with_unfolding_all cases hg;done|refine aE ?_|refine aF ?_|refine aG ?_|refine aH ?_ ?_<;>intro hv<;>try with_unfolding_all cases hv;done)
     all_goals (refine zM (i+1,⟨_,_,_⟩) (by first|omega|(dsimp only;omega)) ⟨by first|omega|(dsimp only;omega),?_⟩ (by exact aTd);first|exact hv0|exact ho)
    have hd:decide ((i:Int)<((rest.length+1:Nat):Int))=false:=by simp;omega
    simp only[Zero];clear hok
    (with_reducible repeat' first|apply aA|refine aB ?_|refine aC ?_|refine aD ?_|(first|apply zB|apply zA|apply zC|apply zD)<;>intro hg<;>try with_unfolding_all cases hg;done|refine aE ?_|refine aF ?_|refine aG ?_|refine aH ?_ ?_<;>intro hv<;>try with_unfolding_all cases hv;done)
    (refine aJ ?_)
    exact⟨(o,0),⟨rfl,rfl⟩,ho⟩
  have hne:(e != 0)=true:=by simpa using he
  clear hlen hok
  (with_reducible repeat' first|apply aA|refine aB ?_|refine aC ?_|refine aD ?_|(first|apply zB|apply zA|apply zC|apply zD)<;>intro hg<;>try with_unfolding_all cases hg;done|refine aE ?_|refine aF ?_|refine aG ?_|refine aH ?_ ?_<;>intro hv<;>try with_unfolding_all cases hv;done)
  all_goals refine aJ ?_
  all_goals exact⟨(⟨0,0,[]⟩,_),⟨rfl,rfl⟩,xE⟩
theorem zP2(l:List Val)(nl cl:Bool)(hl:l.length<4294967295)(hr:∀v ∈ l,R64 v.n):∃x:Val×Int,Om CC 138 [.t (.sl nl cl (l.map Val.c))] []=some (.val (.tup [.t (.agg [.int .u8 (x).1.k,.int .i64 (x).1.n,.str (x).1.s]),.t (.int .i64 (x).2)]),[])∧VOK x.1:=by
 refine zN zWR rfl ?_
 (have F_:=c5 zK zO zL zI (c3 zH wP (c2 yAf zSu));show W CC 0 8 (zE 138) _ ⟨[(0,_)],[]⟩ _)
 obtain⟨x,hx,hp⟩:=zLi (-1) l nl cl hl hr;clear hr
 (with_reducible repeat' first|apply aA|refine aB ?_|refine aC ?_|refine aD ?_|(first|apply zB|apply zA|apply zC|apply zD)<;>intro hg<;>try with_unfolding_all cases hg;done|refine aE ?_|refine aF ?_|refine aG ?_|refine aH ?_ ?_<;>intro hv<;>try with_unfolding_all cases hv;done)
 all_goals refine aJ ?_
 all_goals exact⟨x,⟨rfl,rfl⟩,hp⟩
theorem zSt(l:List Val)(nl cl:Bool)(hl:l.length<4294967295)(hr:∀v ∈ l,R64 v.n):∃x:Val×Int,Om CC 140 [.t (.sl nl cl (l.map Val.c))] []=some (.val (.tup [.t (.agg [.int .u8 (x).1.k,.int .i64 (x).1.n,.str (x).1.s]),.t (.int .i64 (x).2)]),[])∧VOK x.1:=by
 refine zN zWo rfl ?_
 (have F_:=c5 zK zO zL zI (c3 zH wP (c2 zZX zSu));show W CC 0 8 (zE 140) _ ⟨[(0,_)],[]⟩ _)
 obtain⟨x,hx,hp⟩:=zLi 1 l nl cl hl hr;clear hr
 (with_reducible repeat' first|apply aA|refine aB ?_|refine aC ?_|refine aD ?_|(first|apply zB|apply zA|apply zC|apply zD)<;>intro hg<;>try with_unfolding_all cases hg;done|refine aE ?_|refine aF ?_|refine aG ?_|refine aH ?_ ?_<;>intro hv<;>try with_unfolding_all cases hv;done)
 all_goals refine aJ ?_
 all_goals exact⟨x,⟨rfl,rfl⟩,hp⟩
end Go.Ab
