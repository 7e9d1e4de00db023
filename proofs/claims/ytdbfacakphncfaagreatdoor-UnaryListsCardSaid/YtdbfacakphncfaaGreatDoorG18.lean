/- Lemmas. -/
import Derived.Test.YtdbfacakphncfaaGreatDoorG17
set_option maxRecDepth 1000000
set_option maxHeartbeats 4000000
set_option linter.unusedSimpArgs false
set_option linter.unusedVariables false
namespace Go.Ab
open Go.Proofs
theorem zFq(n:Int):∃x:Val,Om CC 144 [.t (.int .i64 n)] []=some (.val (.t (.agg [.int .u8 x.k,.int .i64 x.n,.str x.s])),[])∧(R64 n→VOK x):=by
 refine zN zWE rfl ?_
 (have F_:=c5 zK zL zI zH yC6;show W CC 0 5 (zE 144) _ ⟨[(0,_)],[]⟩ _)
 (with_reducible repeat' first|apply aA|refine aB ?_|refine aC ?_|refine aD ?_|(first|apply zB|apply zA|apply zC|apply zD)<;>intro hg<;>try with_unfolding_all cases hg;done|refine aE ?_|refine aF ?_|refine aG ?_|refine aH ?_ ?_<;>intro hv<;>try with_unfolding_all cases hv;done)
 all_goals refine aJ ?_
 all_goals exact⟨⟨_,_,_⟩,⟨rfl,rfl⟩,by exact fun h=>xI _ h⟩
noncomputable def zEb(n:Int):Val:=(zFq n).choose
theorem zJC(n:Int):Om CC 144 [.t (.int .i64 n)] []=some (.val (.t (.agg [.int .u8 (zEb n).k,.int .i64 (zEb n).n,.str (zEb n).s])),[]):=(zFq n).choose_spec.1
theorem zLF(n:Int):R64 n→VOK (zEb n):=(zFq n).choose_spec.2
theorem zWX(a:Val)(x y:Bool)(ha:VOK a):∃r:Ans,Om CC 141 [.t (.sl x y [[.int .u8 a.k,.int .i64 a.n,.str a.s]])] []=some (.val (.t (.agg [.int .u8 r.v.k,.int .i64 r.v.n,.str r.v.s,.int .i64 r.e])),[])∧AOK r:=by
 refine zN zXo rfl ?_
 (have F_:=c5 zK zR zL zI (c5 zH yB xY wP (c5 zYQ zMy zDD zFE (c5 zRN @zBl @zEe @zOt @qV)));show W CC 0 25 (zE 141) _ ⟨[(0,_)],[]⟩ _)
 obtain⟨f1,hf1,_⟩:=zGv 1 2 [a] x y (by simp);simp only[List.map_cons,List.map_nil,Val.c] at hf1;have hn:=ha.1
 (with_reducible repeat' first|apply aA|refine aB ?_|refine aC ?_|refine aD ?_|(first|apply zB|apply zA|apply zC|apply zD)<;>intro hg<;>try with_unfolding_all cases hg;done|refine aE ?_|refine aF ?_|refine aG ?_|refine aH ?_ ?_<;>intro hv<;>try with_unfolding_all cases hv;done)
 all_goals refine aJ ?_
 all_goals first|exact⟨⟨a,0⟩,⟨rfl,rfl⟩,ha⟩|exact⟨Told (VNeg a).1 (VNeg a).2,⟨rfl,rfl⟩,zFH _ _ (zQn a)⟩|exact⟨Fail 8,⟨rfl,rfl⟩,zDs _⟩
theorem zSQ(a b:Val)(x y:Bool)(hb:R64 b.n):∃r:Ans,Om CC 142 [.t (.sl x y [[.int .u8 a.k,.int .i64 a.n,.str a.s],[.int .u8 b.k,.int .i64 b.n,.str b.s]])] []=some (.val (.t (.agg [.int .u8 r.v.k,.int .i64 r.v.n,.str r.v.s,.int .i64 r.e])),[])∧AOK r:=by
 refine zN zXw rfl ?_
 (have F_:=c5 zK zL zI zH (c5 yB xY wP zYn (c5 yCb zFE zQq @zEe (c3 @zJC @qV @zCQ)));show W CC 0 21 (zE 142) _ ⟨[(0,_)],[]⟩ _)
 have hm:=zUS a.n b.n hb
 (with_reducible repeat' first|apply aA|refine aB ?_|refine aC ?_|refine aD ?_|(first|apply zB|apply zA|apply zC|apply zD)<;>intro hg<;>try with_unfolding_all cases hg;done|refine aE ?_|refine aF ?_|refine aG ?_|refine aH ?_ ?_<;>intro hv<;>try with_unfolding_all cases hv;done)
 all_goals refine aJ ?_
 all_goals exact⟨Told (zEb (NMod a.n b.n).1) (NMod a.n b.n).2,⟨rfl,rfl⟩,zFH _ _ (zLF _ (zYg _ _))⟩
theorem zSR(a:Val)(x y:Bool)(hn:R64 a.n):∃r:Ans,Om CC 134 [.t (.sl x y [[.int .u8 a.k,.int .i64 a.n,.str a.s]])] []=some (.val (.t (.agg [.int .u8 r.v.k,.int .i64 r.v.n,.str r.v.s,.int .i64 r.e])),[])∧AOK r:=by
 refine zN zWU rfl ?_
 (have F_:=c5 zK zL zI zH (c5 yB xY wP yBH (c5 zFE zRN @zEe @zOt @qV));show W CC 0 10 (zE 134) _ ⟨[(0,_)],[]⟩ _)
 (with_reducible repeat' first|apply aA|refine aB ?_|refine aC ?_|refine aD ?_|(first|apply zB|apply zA|apply zC|apply zD)<;>intro hg<;>try with_unfolding_all cases hg;done|refine aE ?_|refine aF ?_|refine aG ?_|refine aH ?_ ?_<;>intro hv<;>try with_unfolding_all cases hv;done)
 all_goals refine aJ ?_
 all_goals exact⟨Told (VNeg a).1 (VNeg a).2,⟨rfl,rfl⟩,zFH _ _ (zQn a)⟩
theorem zTc(a:Val)(x y:Bool)(ha:VOK a):∃r:Ans,Om CC 143 [.t (.sl x y [[.int .u8 a.k,.int .i64 a.n,.str a.s]])] []=some (.val (.t (.agg [.int .u8 r.v.k,.int .i64 r.v.n,.str r.v.s,.int .i64 r.e])),[])∧AOK r:=by
 refine zN zW5 rfl ?_
 (have F_:=c5 zK zL zI zH (c5 yB xY wP yAN (c3 zQq @zJC @qV));show W CC 0 10 (zE 143) _ ⟨[(0,_)],[]⟩ _)
 have hl:R64 (a.s.length:Int):=by have:=ha.2;unfold R64;omega
 (with_reducible repeat' first|apply aA|refine aB ?_|refine aC ?_|refine aD ?_|(first|apply zB|apply zA|apply zC|apply zD)<;>intro hg<;>try with_unfolding_all cases hg;done|refine aE ?_|refine aF ?_|refine aG ?_|refine aH ?_ ?_<;>intro hv<;>try with_unfolding_all cases hv;done)
 all_goals refine aJ ?_
 all_goals exact⟨⟨zEb a.s.length,0⟩,⟨rfl,rfl⟩,zLF _ hl⟩
theorem zPF(l:List Val)(x y:Bool)(hl:l.length<4294967295)(hr:∀v ∈ l,VOK v):∃r:Ans,Om CC 137 [.t (.sl x y (l.map Val.c))] []=some (.val (.t (.agg [.int .u8 r.v.k,.int .i64 r.v.n,.str r.v.s,.int .i64 r.e])),[])∧AOK r:=by
 refine zN zVI rfl ?_
 (have F_:=c5 zK zL zI zH (c5 yB xY wP zZS (c3 zFE yC9 @zEe));show W CC 0 8 (zE 137) _ ⟨[(0,_)],[]⟩ _)
 obtain⟨z,hz,hzp⟩:=zP2 l x y hl (fun v hv=>(hr v hv).1);clear hr
 (with_reducible repeat' first|apply aA|refine aB ?_|refine aC ?_|refine aD ?_|(first|apply zB|apply zA|apply zC|apply zD)<;>intro hg<;>try with_unfolding_all cases hg;done|refine aE ?_|refine aF ?_|refine aG ?_|refine aH ?_ ?_<;>intro hv<;>try with_unfolding_all cases hv;done)
 all_goals refine aJ ?_
 all_goals exact⟨Told z.1 z.2,⟨rfl,rfl⟩,zFH _ _ hzp⟩
theorem zQ5(l:List Val)(x y:Bool)(hl:l.length<4294967295)(hr:∀v ∈ l,VOK v):∃r:Ans,Om CC 139 [.t (.sl x y (l.map Val.c))] []=some (.val (.t (.agg [.int .u8 r.v.k,.int .i64 r.v.n,.str r.v.s,.int .i64 r.e])),[])∧AOK r:=by
 refine zN zW4 rfl ?_
 (have F_:=c5 zK zL zI zH (c5 yB xY wP zXI (c3 zFE yAI @zEe));show W CC 0 8 (zE 139) _ ⟨[(0,_)],[]⟩ _)
 obtain⟨z,hz,hzp⟩:=zSt l x y hl (fun v hv=>(hr v hv).1);clear hr
 (with_reducible repeat' first|apply aA|refine aB ?_|refine aC ?_|refine aD ?_|(first|apply zB|apply zA|apply zC|apply zD)<;>intro hg<;>try with_unfolding_all cases hg;done|refine aE ?_|refine aF ?_|refine aG ?_|refine aH ?_ ?_<;>intro hv<;>try with_unfolding_all cases hv;done)
 all_goals refine aJ ?_
 all_goals exact⟨Told z.1 z.2,⟨rfl,rfl⟩,zFH _ _ hzp⟩
theorem zP1(g:Look)(s:List Nat)(n:Nat)(h:n≤s.length):slice Tryz.prog g 9 (.t (.str s)) none (some (n:Int)) none=some (.t (.str (s.take n))):=by
 unfold slice;rw[zE4];simp;omega
theorem zHz(a b:List Nat):∃r:Bool,Om CC 161 [.t (.str a),.t (.str b)] []=some (.val (.t (.bool r)),[])∧True:=by
 refine zN zOS rfl ?_
 (have F_:=c3 zO zI zSd;show W CC 0 18 (zE 161) _ ⟨[(0,_),(1,_)],[]⟩ _)
 by_cases h:b.length≤a.length
 ·have hd:decide ((a.length:Int) ≥ b.length)=true:=by simpa using h
  have hs:=fun g=>zP1 g a b.length h
  repeat' (first|(with_reducible first|apply aA|apply xK|apply wA|apply vA|apply vB|apply xC|apply wJ|apply xT|apply wI|apply xD|apply wZ)|(refine wY (by kernel_rfl) ?_)|(with_reducible first|apply wH|apply wF|apply xS|apply wC|apply wB|apply uD|apply vQ|apply vP|apply uT|apply kG|apply uU|apply vO)|((with_reducible apply zA5);(focus kernel_rfl))|((with_reducible apply zAV);(focus kernel_rfl);(focus kernel_rfl))|(with_reducible first|apply qK|apply qF)|((with_reducible apply qO);(refine⟨by kernel_rfl,?_⟩))|((with_reducible refine zB (fun hg=>?_) (fun hg=>?_))<;>first|(cases hg;done)|skip)|((with_reducible refine zA (fun hg=>?_) (fun hg=>?_))<;>first|(cases hg;done)|skip)|((with_reducible refine zC (fun hg=>?_) (fun hg=>?_))<;>first|(cases hg;done)|skip)|((with_reducible refine zD (fun hg=>?_) (fun hg=>?_))<;>first|(cases hg;done)|skip)|((with_reducible apply zAn);(focus (simp only[zDu,bound,Int.ofNat_eq_natCast,wanted,exec1,zE7,kO,kR,xLen,zJ,opds,get,putT,ret,retO,lit,lit1,patch,nth,uZ,zHL,zFI,beq_self_eq_true,vC,vI,qA,zDu,Ab.bound,one1,vY,jA,jU, *];exact rfl)))|((with_reducible apply zAm);(focus (simp only[*];exact rfl)))|((refine qQ (by(simp only[zJ,lit,lit1, *];exact rfl)) (fun hv=>?_) (fun hv=>?_))<;>first|(cases hv;done)|skip))
  all_goals refine aJ ?_
  all_goals exact⟨_,⟨rfl,rfl⟩,trivial⟩
 have hd:decide ((a.length:Int) ≥ b.length)=false:=by simp;omega
 (with_reducible repeat' first|apply aA|refine aB ?_|refine aC ?_|refine aD ?_|(first|apply zB|apply zA|apply zC|apply zD)<;>intro hg<;>try with_unfolding_all cases hg;done|refine aE ?_|refine aF ?_|refine aG ?_|refine aH ?_ ?_<;>intro hv<;>try with_unfolding_all cases hv;done)
 all_goals refine aJ ?_
 all_goals exact⟨_,⟨rfl,rfl⟩,trivial⟩
noncomputable def zT2(a b:List Nat):Bool:=(zHz a b).choose
theorem zNV(a b:List Nat):Om CC 161 [.t (.str a),.t (.str b)] []=some (.val (.t (.bool (zT2 a b))),[]):=(zHz a b).choose_spec.1
theorem zIi(a:List Nat)(b:List Nat):∃x:Bool,Om CC 107 [.t (.str a),.t (.str b)] []=some (.val (.t (.bool x)),[])∧(True):=by
 refine zN zOT rfl ?_
 (have F_:=c3 zI zR2 (c2 zJw @zNV);show W CC 0 8 (zE 107) _ ⟨[(0,_),(1,_)],[]⟩ _)
 (with_reducible repeat' first|apply aA|refine aB ?_|refine aC ?_|refine aD ?_|(first|apply zB|apply zA|apply zC|apply zD)<;>intro hg<;>try with_unfolding_all cases hg;done|refine aE ?_|refine aF ?_|refine aG ?_|refine aH ?_ ?_<;>intro hv<;>try with_unfolding_all cases hv;done)
 all_goals refine aJ ?_
 all_goals exact⟨_,⟨rfl,rfl⟩,by trivial⟩
noncomputable def zOi(a:List Nat)(b:List Nat):Bool:=(zIi a b).choose
theorem zPa(a:List Nat)(b:List Nat):Om CC 107 [.t (.str a),.t (.str b)] []=some (.val (.t (.bool (zOi a b))),[]):=(zIi a b).choose_spec.1
theorem zSz(a b:Val)(x y:Bool):∃r:Ans,Om CC 127 [.t (.sl x y [[.int .u8 a.k,.int .i64 a.n,.str a.s],[.int .u8 b.k,.int .i64 b.n,.str b.s]])] []=some (.val (.t (.agg [.int .u8 r.v.k,.int .i64 r.v.n,.str r.v.s,.int .i64 r.e])),[])∧AOK r:=by
 refine zN zVj rfl ?_
 (have F_:=c5 zK zR zL zI (c5 zH yB xY wP (c5 yBl zA2 zDk @zPa (c3 @qZ @qV @zCQ)));show W CC 0 14 (zE 127) _ ⟨[(0,_)],[]⟩ _)
 (with_reducible repeat' first|apply aA|refine aB ?_|refine aC ?_|refine aD ?_|(first|apply zB|apply zA|apply zC|apply zD)<;>intro hg<;>try with_unfolding_all cases hg;done|refine aE ?_|refine aF ?_|refine aG ?_|refine aH ?_ ?_<;>intro hv<;>try with_unfolding_all cases hv;done)
 all_goals refine aJ ?_
 all_goals exact⟨⟨qC (zOi a.s b.s),0⟩,⟨rfl,rfl⟩,zBV _⟩
noncomputable def varA(name:List Nat)(l:List Bind):Ans :=
 match l.findIdx? (fun b=>beqL b.name name) with
 |some i=>Held ((l.map Bind.v).getD i Zero)
 |none=>Fail 11
theorem zTz{name:List Nat}{l:List Bind}{i:Nat}(hi:i<l.length)(h:beqL l[i].name name=true)(hn:∀j (hj:j<l.length),j<i→beqL l[j].name name=false):varA name l=Held l[i].v:=by
 have:l.findIdx? (fun t=>beqL t.name name)=some i:=by
  rw[List.findIdx?_eq_some_iff_getElem];exact⟨hi,h,fun j hj=>by simp [hn j (by omega) hj]⟩
 unfold varA;rw[this];simp [List.getD,hi]
theorem zR5{name:List Nat}{l:List Bind}(hn:∀j (hj:j<l.length),beqL l[j].name name=false):varA name l=Fail 11:=by
 have:l.findIdx? (fun t=>beqL t.name name)=none:=by
  rw[List.findIdx?_eq_none_iff];intro x hx;obtain⟨j,hj,rfl⟩:=List.getElem_of_mem hx;exact hn j hj
 unfold varA;rw[this]
noncomputable def jD(op:Int)(v:Val)(name:List Nat)(self:Val)(l:List Bind):Ans×Bool :=
 if op=1 then (Held v,true) else if op=3 then (Held self,true) else if op=2 then (varA name l,true) else (AZero,false)
theorem zVH (op:Int) (v:Val) (name:List Nat) (kids line col:Tree) (self:Val) (nl cl:Bool) (l:List Bind) (hl:l.length<9223372036854775808) :
  Om CC 82 [.t (.agg [.int .u8 op,.int .u8 v.k,.int .i64 v.n,.str v.s,.str name,kids,line,col]),.t (.agg [.int .u8 self.k,.int .i64 self.n,.str self.s]),.t (.sl nl cl (l.map Bind.c))] []=some (.val (.tup [.t (.agg [.int .u8 (jD op v name self l).1.v.k,.int .i64 (jD op v name self l).1.v.n,.str (jD op v name self l).1.v.s,.int .i64 (jD op v name self l).1.e]),.t (.bool (jD op v name self l).2)]),[]):=by
 refine zV yAU rfl ?_
 (have F_:=c5 zK zO zL zI (c5 zH zAg zS yB (c5 zAb zY zQ xY (c5 yEd yCI zDD @zVg @zBl)));show W CC 0 40 (zE 82) _ ⟨[(0,_),(1,_),(2,_)],[]⟩ _)
 by_cases h1:op=1
 ·subst h1
  (with_reducible repeat' first|apply aA|refine aB ?_|refine aC ?_|refine aD ?_|(first|apply zB|apply zA|apply zC|apply zD)<;>intro hg<;>try with_unfolding_all cases hg;done|refine aE ?_|refine aF ?_|refine aG ?_|refine aH ?_ ?_<;>intro hv<;>try with_unfolding_all cases hv;done)
  (refine aK ?_ ?_)
  ·rfl
  rfl
 have e1:(op==1)=false:=by simpa using h1
 by_cases h3:op=3
 ·subst h3
  (with_reducible repeat' first|apply aA|refine aB ?_|refine aC ?_|refine aD ?_|(first|apply zB|apply zA|apply zC|apply zD)<;>intro hg<;>try with_unfolding_all cases hg;done|refine aE ?_|refine aF ?_|refine aG ?_|refine aH ?_ ?_<;>intro hv<;>try with_unfolding_all cases hv;done)
  (refine aK ?_ ?_)
  ·rfl
  rfl
 have e3:(op==3)=false:=by simpa using h3
 by_cases h2:op=2
 ·subst h2;have hL:jD 2 v name self l=(varA name l,true):=by simp [jD]
  rw[hL];clear h1 h3
  (with_reducible repeat' first|apply aA|refine aB ?_|refine aC ?_|refine aD ?_|(first|apply zB|apply zA|apply zC|apply zD)<;>intro hg<;>try with_unfolding_all cases hg;done|refine aE ?_|refine aF ?_|refine aG ?_|refine aH ?_ ?_<;>intro hv<;>try with_unfolding_all cases hv;done)
  refine yS (α:=Nat) (fun i=>⟨[(3,.box 0 0),(6,.box 1 0),(23,.t (.sl nl cl (l.map Bind.c))),(24,.t (.int .i64 l.length)),(25,.t (.int .i64 i))],[.box [.t (.int .u8 2),.t (.int .u8 v.k),.t (.int .i64 v.n),.t (.str v.s),.t (.str name),.t kids,.t line,.t col],.box (AZero.c.map .t)]⟩) (fun i=>l.length - i)
   (fun i=>i≤l.length∧∀j (hj:j<l.length),j<i→beqL l[j].name name=false) 0 (by kernel_rfl) ⟨Nat.zero_le _,fun j _ hj=>by omega⟩ ?_
  rintro i ⟨hi,hn⟩;simp only[AZero,Ans.c,List.map_cons,List.map_nil]
  by_cases hi':i<l.length
  ·have hw:IntKind.i64.wrap ((i:Int)+1)=((i+1:Nat):Int):=by rw[wrap64]<;>omega
   have he:l[i]?=some l[i]:=List.getElem?_eq_getElem hi';have hd:decide ((i:Int)<l.length)=true:=by simpa using hi'
   cases hb:beqL l[i].name name with
   |true =>
    rw[zTz hi' hb hn];clear hn
    (with_reducible repeat' first|apply aA|refine aB ?_|refine aC ?_|refine aD ?_|(first|apply zB|apply zA|apply zC|apply zD)<;>intro hg<;>try with_unfolding_all cases hg;done|refine aE ?_|refine aF ?_|refine aG ?_|refine aH ?_ ?_<;>intro hv<;>try with_unfolding_all cases hv;done)
    (refine aK ?_ ?_)
    ·rfl
    rfl
   |false =>
    have hn':∀j (hj:j<l.length),j<i+1→beqL l[j].name name=false:=fun j hj hji=>by
     rcases Nat.lt_or_ge j i with h|h
     ·exact hn j hj h
     obtain rfl:j=i:=by omega
     exact hb
    clear hn
    (with_reducible repeat' first|apply aA|refine aB ?_|refine aC ?_|refine aD ?_|(first|apply zB|apply zA|apply zC|apply zD)<;>intro hg<;>try with_unfolding_all cases hg;done|refine aE ?_|refine aF ?_|refine aG ?_|refine aH ?_ ?_<;>intro hv<;>try with_unfolding_all cases hv;done)
    refine zM (i+1) (by omega) ⟨by omega,hn'⟩ (by(simp only[yD,zU,F_,tidy,xJ,canon,reach,yK,refs,xH,catMap,depth,renL,ren,renO,sub,sub1,upto,mem,place,fresh,cond_true,Ab.get,nth,List.map,List.zip_cons_cons,List.zip_nil_right,List.take,List.append_nil,List.nil_append,List.cons_append,yM,decide_true,decide_false,Nat.reduceEqDiff]<;>exact rfl))
  have hd:decide ((i:Int)<l.length)=false:=by simpa using hi'
  rw[zR5 fun j hj=>hn j hj (by omega)];clear hn
  (with_reducible repeat' first|apply aA|refine aB ?_|refine aC ?_|refine aD ?_|(first|apply zB|apply zA|apply zC|apply zD)<;>intro hg<;>try with_unfolding_all cases hg;done|refine aE ?_|refine aF ?_|refine aG ?_|refine aH ?_ ?_<;>intro hv<;>try with_unfolding_all cases hv;done)
  (refine aK ?_ ?_)
  ·rfl
  rfl
 have e2:(op==2)=false:=by simpa using h2
 have hL:jD op v name self l=(AZero,false):=by simp [jD,h1,h2,h3]
 rw[hL]
 (with_reducible repeat' first|apply aA|refine aB ?_|refine aC ?_|refine aD ?_|(first|apply zB|apply zA|apply zC|apply zD)<;>intro hg<;>try with_unfolding_all cases hg;done|refine aE ?_|refine aF ?_|refine aG ?_|refine aH ?_ ?_<;>intro hv<;>try with_unfolding_all cases hv;done)
 (refine aK ?_ ?_)
 ·rfl
 rfl
def u8C(n:Int):List Tree:=[.int .u8 n]
theorem zIb:∀bs:List Int,zCR (bs.map u8C)=some (bs.map fun n=>n.toNat % 256)
 |[]=>rfl
 |b::bs=>by
  have h:=zIb bs
  show (match zCR (bs.map u8C) with|some bs=>some (b.toNat % 256::bs)|none=>none)=_
  rw[h];rfl
theorem zQj(a:Val)(x y:Bool)(ha:VOK a):∃r:Ans,Om CC 145 [.t (.sl x y [[.int .u8 a.k,.int .i64 a.n,.str a.s]])] []=some (.val (.t (.agg [.int .u8 r.v.k,.int .i64 r.v.n,.str r.v.s,.int .i64 r.e])),[])∧AOK r:=by
 refine zN zXc rfl ?_
 (have F_:=c5 zK zO zL zI (c5 zH yB zPX xY (c3 wP yCd @qV));show W CC 0 35 (zE 145) _ ⟨[(0,_)],[]⟩ _)
 have hs:a.s.length<4294967281:=ha.2;clear ha
 (with_reducible repeat' first|apply aA|refine aB ?_|refine aC ?_|refine aD ?_|(first|apply zB|apply zA|apply zC|apply zD)<;>intro hg<;>try with_unfolding_all cases hg;done|refine aE ?_|refine aF ?_|refine aG ?_|refine aH ?_ ?_<;>intro hv<;>try with_unfolding_all cases hv;done)
 refine yS (α:=Nat×List Int) (fun q=>⟨[(2,.box 0 0),(3,.hs 1 0),(11,.hs 1 0),(12,.t (.int .i64 a.s.length)),(13,.t (.int .i64 q.1))],[.box (AZero.c.map .t),.arr 1 0 false (q.2.map u8C)]⟩)
  (fun q=>a.s.length - q.1) (fun q=>q.1≤a.s.length∧q.2.length=a.s.length) (0,a.s.map Int.ofNat) ?_ ⟨Nat.zero_le _,by simp⟩ ?_
 ·(simp only[yD,zU,F_,tidy,xJ,canon,reach,yK,refs,xH,catMap,depth,renL,ren,renO,sub,sub1,upto,mem,place,fresh,cond_true,Ab.get,nth,List.map,List.zip_cons_cons,List.zip_nil_right,List.take,List.append_nil,List.nil_append,List.cons_append,Bool.and_true,yM,decide_true,decide_false,Nat.reduceEqDiff,AZero,Ans.c,byteCells,List.length_map,List.map_map,Function.comp_def,u8C,Int.ofNat_eq_natCast]<;>exact rfl)
 rintro⟨i,bs⟩ ⟨hi,hl⟩
 try dsimp only at hi hl
 simp only[AZero,Ans.c,List.map_cons,List.map_nil]
 by_cases hi':i<a.s.length
 ·have hw:IntKind.i64.wrap ((i:Int)+1)=((i+1:Nat):Int):=by rw[wrap64]<;>omega
  have hd:decide ((i:Int)<a.s.length)=true:=by simpa using hi'
  have hi0:(0:Int)≤(i:Int):=by omega
  have hi2:(i:Int)<(a.s.length:Int):=by omega
  have he:nth (bs.map u8C) i=some [.int .u8 (bs[i]'(by omega))]:=by rw[xB];simp [u8C,hl,hi']
  generalize bs[i]'(by omega)=b at he
  repeat' (first|(with_reducible first|apply aA|apply xK|apply wA|apply vA|apply vB|apply xC|apply wJ|apply xT|apply wI|apply xD|apply wZ)|(refine wY (by kernel_rfl) ?_)|(with_reducible first|apply wH|apply wF|apply xS|apply wC|apply wB|apply uD|apply vQ|apply vP|apply uT|apply kG|apply uU|apply vO)|((with_reducible apply zA5);(focus kernel_rfl))|((with_reducible apply zAV);(focus kernel_rfl);(focus kernel_rfl))|(with_reducible first|apply qK|apply qF)|((with_reducible apply qO);(refine⟨by kernel_rfl,?_⟩))|((with_reducible refine zB (fun hg=>?_) (fun hg=>?_))<;>first|(cases hg;done)|skip)|((with_reducible refine zA (fun hg=>?_) (fun hg=>?_))<;>first|(cases hg;done)|skip)|((with_reducible refine zC (fun hg=>?_) (fun hg=>?_))<;>first|(cases hg;done)|skip)|((with_reducible refine zD (fun hg=>?_) (fun hg=>?_))<;>first|(cases hg;done)|skip)|((with_reducible apply zAn);(focus (simp only[kI,view,yE,yH,Int.toNat_natCast,beq_true,decide_true,List.length_map,wanted,exec1,zE7,qG,vU,cellsOf,zJ,get,putT,ret,retO,lit,lit1,patch,put1,load,loadCells,cut,trees,nth,indexAddr,storeAt,upd,splice,xM,uZ,zBq,zK3,zAN,zKH,zHL,beq_self_eq_true,Nat.zero_add,List.map_cons,List.map_nil,List.length_cons,List.length_nil,List.take,List.drop,List.all_cons,List.all_nil,List.nil_append,List.append_nil,Bool.and_self,if_true,Nat.reduceLeDiff,and_self,view,yE,yH,vC,vI,qA,zEW,Int.toNat_natCast,one1,vY,jA,jU, *];exact rfl)))|((with_reducible apply zAm);(focus (simp only[*];exact rfl)))|((refine qQ (by(simp only[zJ,get,lit,lit1, *];exact rfl)) (fun hv=>?_) (fun hv=>?_))<;>first|(cases hv;done)|skip))
  ·refine zM (i+1,bs.set i (IntKind.u8.wrap (IntKind.u8.wrap (b - 97)+65))) (by first|omega|(dsimp only;omega)) ⟨by first|omega|(dsimp only;omega),by simp [hl]⟩ (by(simp only[yD,zU,F_,tidy,xJ,canon,reach,yK,refs,xH,catMap,depth,renL,ren,renO,sub,sub1,upto,mem,place,fresh,cond_true,Ab.get,nth,List.map,List.zip_cons_cons,List.zip_nil_right,List.take,List.append_nil,List.nil_append,List.cons_append,Bool.and_true,yM,decide_true,decide_false,Nat.reduceEqDiff,kM,List.map_set,u8C]<;>exact rfl))
  all_goals refine zM (i+1,bs) (by first|omega|(dsimp only;omega)) ⟨by first|omega|(dsimp only;omega),hl⟩ (by(simp only[yD,zU,F_,tidy,xJ,canon,reach,yK,refs,xH,catMap,depth,renL,ren,renO,sub,sub1,upto,mem,place,fresh,cond_true,Ab.get,nth,List.map,List.zip_cons_cons,List.zip_nil_right,List.take,List.append_nil,List.nil_append,List.cons_append,Bool.and_true,yM,decide_true,decide_false,Nat.reduceEqDiff]<;>exact rfl))
 have hd:decide ((i:Int)<a.s.length)=false:=by simpa using hi'
 have hbo:=zIb bs
 (with_reducible repeat' first|apply aA|refine aB ?_|refine aC ?_|refine aD ?_|(first|apply zB|apply zA|apply zC|apply zD)<;>intro hg<;>try with_unfolding_all cases hg;done|refine aE ?_|refine aF ?_|refine aG ?_|refine aH ?_ ?_<;>intro hv<;>try with_unfolding_all cases hv;done)
 (refine aJ ?_)
 refine⟨⟨⟨3,0,bs.map fun n=>n.toNat % 256⟩,0⟩,⟨rfl,rfl⟩,uQ,?_⟩;simp;omega
theorem zT5(a b:Val)(x y:Bool)(ha:VOK a):∃r:Ans,Om CC 125 [.t (.sl x y [[.int .u8 a.k,.int .i64 a.n,.str a.s],[.int .u8 b.k,.int .i64 b.n,.str b.s]])] []=some (.val (.t (.agg [.int .u8 r.v.k,.int .i64 r.v.n,.str r.v.s,.int .i64 r.e])),[])∧AOK r:=by
 refine zN zWg rfl ?_
 (have F_:=c5 zK zR zL zI (c5 zH yB xY wP (c5 zZk yAr zDk @qZ (c2 @qV @zCQ)));show W CC 0 14 (zE 125) _ ⟨[(0,_)],[]⟩ _)
 have hs:a.s.length<4294967281:=ha.2;have hh:CC.prim 126 [.t (.str a.s),.t (.str b.s)]=some (.t (.bool (Lib.contains (ub a.s) (ub b.s)))):=by
  rw[zVx]
  show (bif Nat.blt a.s.length 4294967281 then _ else _)=_
  rw[show Nat.blt a.s.length 4294967281=true from by rw[Nat.blt_eq];exact hs];rfl
 clear ha
 (with_reducible repeat' first|apply aA|refine aB ?_|refine aC ?_|refine aD ?_|(first|apply zB|apply zA|apply zC|apply zD)<;>intro hg<;>try with_unfolding_all cases hg;done|refine aE ?_|refine aF ?_|refine aG ?_|refine aH ?_ ?_<;>intro hv<;>try with_unfolding_all cases hv;done)
 all_goals refine aJ ?_
 all_goals exact⟨⟨qC _,0⟩,⟨rfl,rfl⟩,zBV _⟩
theorem zK2(a b:Val)(ha:VOK a)(hb:VOK b):∃x:Val,Om CC 42 [.t (.sl false false [[.int .u8 a.k,.int .i64 a.n,.str a.s],[.int .u8 b.k,.int .i64 b.n,.str b.s]])] []=some (.val (.t (.agg [.int .u8 x.k,.int .i64 x.n,.str x.s])),[])∧VOK x :=
 zKT [a,b] false false (by simp) (by simp [ha,hb])
open Classical in
noncomputable def All2(a b:Val):Val:=if h:VOK a∧VOK b then (zK2 a b h.1 h.2).choose else Zero
theorem zEf(a b:Val)(ha:VOK a)(hb:VOK b):Om CC 42 [.t (.sl false false [[.int .u8 a.k,.int .i64 a.n,.str a.s],[.int .u8 b.k,.int .i64 b.n,.str b.s]])] []=some (.val (.t (.agg [.int .u8 (All2 a b).k,.int .i64 (All2 a b).n,.str (All2 a b).s])),[]):=by
 unfold All2;rw[dif_pos ⟨ha,hb⟩];exact(zK2 a b ha hb).choose_spec.1
theorem zJO(a b:Val)(ha:VOK a)(hb:VOK b):VOK (All2 a b):=by
 unfold All2;rw[dif_pos ⟨ha,hb⟩];exact(zK2 a b ha hb).choose_spec.2
theorem zKB(a b:Val)(ha:VOK a)(hb:VOK b):∃x:Val,Om CC 44 [.t (.sl false false [[.int .u8 a.k,.int .i64 a.n,.str a.s],[.int .u8 b.k,.int .i64 b.n,.str b.s]])] []=some (.val (.t (.agg [.int .u8 x.k,.int .i64 x.n,.str x.s])),[])∧VOK x :=
 zVS [a,b] false false (by simp) (by simp [ha,hb])
open Classical in
noncomputable def Any2(a b:Val):Val:=if h:VOK a∧VOK b then (zKB a b h.1 h.2).choose else Zero
theorem zEg(a b:Val)(ha:VOK a)(hb:VOK b):Om CC 44 [.t (.sl false false [[.int .u8 a.k,.int .i64 a.n,.str a.s],[.int .u8 b.k,.int .i64 b.n,.str b.s]])] []=some (.val (.t (.agg [.int .u8 (Any2 a b).k,.int .i64 (Any2 a b).n,.str (Any2 a b).s])),[]):=by
 unfold Any2;rw[dif_pos ⟨ha,hb⟩];exact(zKB a b ha hb).choose_spec.1
theorem zJv(a b:Val)(ha:VOK a)(hb:VOK b):VOK (Any2 a b):=by
 unfold Any2;rw[dif_pos ⟨ha,hb⟩];exact(zKB a b ha hb).choose_spec.2
theorem zCf (op:Int) (nl cl nl2 cl2:Bool) (kl:List Ans) (nb:List Bool) (hk:∀a ∈ kl,AOK a) :
  ∃x:Ans×Bool,Om CC 83 [.t (.int .u8 op),.t (.agg [.sl nl cl (kl.map Ans.c),.sl nl2 cl2 (nb.map xA)])] []=some (.val (.tup [.t (.agg [.int .u8 x.1.v.k,.int .i64 x.1.v.n,.str x.1.v.s,.int .i64 x.1.e]),.t (.bool x.2)]),[])∧AOK x.1∧(op=7∨op=8∨op=9∨op=10∨op=11∨op=12→x.2=true∧TB x.1):=by
 refine zN yBs rfl ?_
 (have F_:=c5 zK zO zR zL (c5 zI zH yB zGL (c5 zMN kY xY kV (c5 jB zAU yEi yAO (c5 zMI yCT yA1 zQ3 (c2 zMg @zFD)))));show W CC 0 59 (zE 83) _ ⟨[(0,_),(1,_)],[]⟩ _)
 obtain⟨b0,hb0,pb0⟩:=zMW 42 zH6 (fun x=>zZ _ x (by decide)) All2 zEf zJO 0 nl cl nl2 cl2 kl nb hk;obtain⟨b1,hb1,pb1⟩:=zMW 44 zJP (fun x=>zZ _ x (by decide)) Any2 zEg zJv 1 nl cl nl2 cl2 kl nb hk;obtain⟨t0,ht0,pt0⟩:=zEY nl cl nl2 cl2 kl (nb.map xA) 0 hk;have ht0:Om CC 117 [.t (.agg [.sl nl cl (kl.map Ans.c),.sl nl2 cl2 (nb.map xA)]),.t (.int .i64 0)] []=_:=ht0;obtain⟨e1,he1,pe1⟩:=zJd nl cl nl2 cl2 kl nb hk true;obtain⟨e0,he0,pe0⟩:=zJd nl cl nl2 cl2 kl nb hk false;obtain⟨o1,ho1,po1⟩:=zEX 120 yA3 (fun x=>zZ _ x (by decide)) zUv zTx nl cl nl2 cl2 kl nb hk;obtain⟨o2,ho2,po2⟩:=zEX 121 yC1 (fun x=>zZ _ x (by decide)) zUw zS8 nl cl nl2 cl2 kl nb hk;obtain⟨o3,ho3,po3⟩:=zEX 122 zYm (fun x=>zZ _ x (by decide)) zUz zTo nl cl nl2 cl2 kl nb hk;obtain⟨o4,ho4,po4⟩:=zEX 123 zXQ (fun x=>zZ _ x (by decide)) zUB zTb nl cl nl2 cl2 kl nb hk;obtain⟨s5,hs5,ps5⟩:=zEx 125 zZe (fun x=>zZ _ x (by decide)) 3 2 (by decide) (fun l x y hl hv=>by
  match l,hl,hv with
  |[a,b],_,hv=>exact zT5 a b x y (hv a (by simp))) nl cl nl2 cl2 kl nb hk
 have hs5:Om CC 124 [.t (.agg [.sl nl cl (kl.map Ans.c),.sl nl2 cl2 (nb.map xA)]),.t (.int .i64 2),.t (.int .u8 3),.t (.fn 125)] []=_:=hs5;obtain⟨s6,hs6,ps6⟩:=zEx 127 zYd (fun x=>zZ _ x (by decide)) 3 2 (by decide) (fun l x y hl hv=>by
  match l,hl,hv with
  |[a,b],_,hv=>exact zSz a b x y) nl cl nl2 cl2 kl nb hk
 have hs6:Om CC 124 [.t (.agg [.sl nl cl (kl.map Ans.c),.sl nl2 cl2 (nb.map xA)]),.t (.int .i64 2),.t (.int .u8 3),.t (.fn 127)] []=_:=hs6;have pn:=zFL t0.v;clear hk
 (with_reducible repeat' first|apply aA|refine aB ?_|refine aC ?_|refine aD ?_|(first|apply zB|apply zA|apply zC|apply zD)<;>intro hg<;>try with_unfolding_all cases hg;done|refine aE ?_|refine aF ?_|refine aG ?_|refine aH ?_ ?_<;>intro hv<;>try with_unfolding_all cases hv;done)
 all_goals refine aJ ?_
 all_goals first|exact⟨(b0,true),⟨rfl,rfl⟩,pb0,fun h=>absurd h (by clear F_;simp only[beq_iff_eq,beq_eq_false_iff_ne] at *;omega)⟩|exact⟨(b1,true),⟨rfl,rfl⟩,pb1,fun h=>absurd h (by clear F_;simp only[beq_iff_eq,beq_eq_false_iff_ne] at *;omega)⟩|exact⟨(⟨NotV t0.v,0⟩,true),⟨rfl,rfl⟩,pn,fun h=>absurd h (by clear F_;simp only[beq_iff_eq,beq_eq_false_iff_ne] at *;omega)⟩|exact⟨(⟨NotV t0.v,t0.e⟩,true),⟨rfl,rfl⟩,pn,fun h=>absurd h (by clear F_;simp only[beq_iff_eq,beq_eq_false_iff_ne] at *;omega)⟩|exact⟨(t0,true),⟨rfl,rfl⟩,pt0,fun h=>absurd h (by clear F_;simp only[beq_iff_eq,beq_eq_false_iff_ne] at *;omega)⟩|exact⟨(e1,true),⟨rfl,rfl⟩,pe1.1,fun _=>⟨rfl,pe1.2⟩⟩|exact⟨(e0,true),⟨rfl,rfl⟩,pe0.1,fun _=>⟨rfl,pe0.2⟩⟩|exact⟨(o1,true),⟨rfl,rfl⟩,po1.1,fun _=>⟨rfl,po1.2⟩⟩|exact⟨(o2,true),⟨rfl,rfl⟩,po2.1,fun _=>⟨rfl,po2.2⟩⟩|exact⟨(o3,true),⟨rfl,rfl⟩,po3.1,fun _=>⟨rfl,po3.2⟩⟩|exact⟨(o4,true),⟨rfl,rfl⟩,po4.1,fun _=>⟨rfl,po4.2⟩⟩|exact⟨(s5,true),⟨rfl,rfl⟩,ps5,fun h=>absurd h (by clear F_;simp only[beq_iff_eq,beq_eq_false_iff_ne] at *;omega)⟩|exact⟨(s6,true),⟨rfl,rfl⟩,ps6,fun h=>absurd h (by clear F_;simp only[beq_iff_eq,beq_eq_false_iff_ne] at *;omega)⟩|exact⟨(AZero,false),⟨rfl,rfl⟩,xE,fun h=>absurd h (by clear F_;simp only[beq_eq_false_iff_ne] at *;omega)⟩
theorem zGm (op:Int) (nl cl nl2 cl2:Bool) (kl:List Ans) (nb:List Bool) (hk:∀a ∈ kl,AOK a) (hl:kl.length<4294967295) :
  ∃x:Ans,Om CC 84 [.t (.int .u8 op),.t (.agg [.sl nl cl (kl.map Ans.c),.sl nl2 cl2 (nb.map xA)])] []=some (.val (.t (.agg [.int .u8 x.v.k,.int .i64 x.v.n,.str x.v.s,.int .i64 x.e])),[])∧AOK x:=by
 refine zN zZT rfl ?_
 (have F_:=c5 zK zO zR zL (c5 zI zH yB kY (c5 xY kV jB zAU (c5 zMo yDo zZB zGQ (c3 zQ3 yBZ (c2 zDD @zBl)))));show W CC 0 61 (zE 84) _ ⟨[(0,_),(1,_)],[]⟩ _)
 obtain⟨a1,h1,p1⟩:=zH1 129 yBk (fun x=>zZ _ x (by decide)) (fun a b ha hb=>zTk a b ha.1 hb.1) nl cl nl2 cl2 kl nb hk;obtain⟨a2,h2,p2⟩:=zH1 130 zQT (fun x=>zZ _ x (by decide)) (fun a b ha hb=>zGj a b ha.1 hb.1) nl cl nl2 cl2 kl nb hk;obtain⟨a3,h3,p3⟩:=zH1 131 zYD (fun x=>zZ _ x (by decide)) (fun a b ha hb=>zS0 a b ha.1 hb.1) nl cl nl2 cl2 kl nb hk;obtain⟨a4,h4,p4⟩:=zH1 132 yC3 (fun x=>zZ _ x (by decide)) (fun a b ha hb=>zSP a b ha.1 hb.1) nl cl nl2 cl2 kl nb hk;obtain⟨a5,h5,p5⟩:=zEI 134 yBA (fun x=>zZ _ x (by decide)) nl cl nl2 cl2 kl (nb.map xA) 1 (by decide) hk (fun l x y hl hv=>by
  match l,hl,hv with
  |[a],_,hv=>exact zSR a x y (hv a (by simp)).1)
 have h5:Om CC 133 [.t (.agg [.sl nl cl (kl.map Ans.c),.sl nl2 cl2 (nb.map xA)]),.t (.int .i64 1),.t (.fn 134)] []=_:=h5;obtain⟨a6,h6,p6⟩:=zEI 137 yBn (fun x=>zZ _ x (by decide)) nl cl nl2 cl2 kl (nb.map xA) kl.length hl hk (fun l x y hl' hv=>zPF l x y (by omega) hv);obtain⟨a7,h7,p7⟩:=zEI 139 yA7 (fun x=>zZ _ x (by decide)) nl cl nl2 cl2 kl (nb.map xA) kl.length hl hk (fun l x y hl' hv=>zQ5 l x y (by omega) hv);obtain⟨a8,h8,p8⟩:=zEI 141 yBE (fun x=>zZ _ x (by decide)) nl cl nl2 cl2 kl (nb.map xA) 1 (by decide) hk (fun l x y hl hv=>by
  match l,hl,hv with
  |[a],_,hv=>exact zWX a x y (hv a (by simp)))
 have h8:Om CC 133 [.t (.agg [.sl nl cl (kl.map Ans.c),.sl nl2 cl2 (nb.map xA)]),.t (.int .i64 1),.t (.fn 141)] []=_:=h8;obtain⟨a9,h9,p9⟩:=zEx 142 zXR (fun x=>zZ _ x (by decide)) 1 2 (by decide) (fun l x y hl hv=>by
  match l,hl,hv with
  |[a,b],_,hv=>exact zSQ a b x y (hv b (by simp)).1) nl cl nl2 cl2 kl nb hk
 have h9:Om CC 124 [.t (.agg [.sl nl cl (kl.map Ans.c),.sl nl2 cl2 (nb.map xA)]),.t (.int .i64 2),.t (.int .u8 1),.t (.fn 142)] []=_:=h9;obtain⟨a10,h10,p10⟩:=zEx 143 yBq (fun x=>zZ _ x (by decide)) 3 1 (by decide) (fun l x y hl hv=>by
  match l,hl,hv with
  |[a],_,hv=>exact zTc a x y (hv a (by simp))) nl cl nl2 cl2 kl nb hk
 have h10:Om CC 124 [.t (.agg [.sl nl cl (kl.map Ans.c),.sl nl2 cl2 (nb.map xA)]),.t (.int .i64 1),.t (.int .u8 3),.t (.fn 143)] []=_:=h10;obtain⟨a11,h11,p11⟩:=zEx 145 zYs (fun x=>zZ _ x (by decide)) 3 1 (by decide) (fun l x y hl hv=>by
  match l,hl,hv with
  |[a],_,hv=>exact zQj a x y (hv a (by simp))) nl cl nl2 cl2 kl nb hk
 have h11:Om CC 124 [.t (.agg [.sl nl cl (kl.map Ans.c),.sl nl2 cl2 (nb.map xA)]),.t (.int .i64 1),.t (.int .u8 3),.t (.fn 145)] []=_:=h11;obtain⟨a12,h12,p12⟩:=zPg nl cl nl2 cl2 kl (nb.map xA) hk;clear hk
 (with_reducible repeat' first|apply aA|refine aB ?_|refine aC ?_|refine aD ?_|(first|apply zB|apply zA|apply zC|apply zD)<;>intro hg<;>try with_unfolding_all cases hg;done|refine aE ?_|refine aF ?_|refine aG ?_|refine aH ?_ ?_<;>intro hv<;>try with_unfolding_all cases hv;done)
 all_goals refine aJ ?_
 all_goals first|exact⟨a1,⟨rfl,rfl⟩,p1⟩|exact⟨a2,⟨rfl,rfl⟩,p2⟩|exact⟨a3,⟨rfl,rfl⟩,p3⟩|exact⟨a4,⟨rfl,rfl⟩,p4⟩|exact⟨a5,⟨rfl,rfl⟩,p5⟩|exact⟨a6,⟨rfl,rfl⟩,p6⟩|exact⟨a7,⟨rfl,rfl⟩,p7⟩|exact⟨a8,⟨rfl,rfl⟩,p8⟩|exact⟨a9,⟨rfl,rfl⟩,p9⟩|exact⟨a10,⟨rfl,rfl⟩,p10⟩|exact⟨a11,⟨rfl,rfl⟩,p11⟩|exact⟨a12,⟨rfl,rfl⟩,p12⟩|exact⟨Fail 2,⟨rfl,rfl⟩,zDs _⟩
open Classical in
noncomputable def qJ(op:Int)(kl:List Ans)(nb:List Bool):Ans×Bool :=
 if h:∀a ∈ kl,AOK a then (zCf op kl.isEmpty kl.isEmpty kl.isEmpty kl.isEmpty kl nb h).choose else (AZero,false)
open Classical in
noncomputable def zAf(op:Int)(kl:List Ans)(nb:List Bool):Ans :=
 if h:(∀a ∈ kl,AOK a)∧kl.length<4294967295 then (zGm op kl.isEmpty kl.isEmpty kl.isEmpty kl.isEmpty kl nb h.1 h.2).choose else AZero
theorem zLj (op:Int) (kl:List Ans) (nb:List Bool) (b:Bool) (hb:kl.isEmpty=b) (h:∀a ∈ kl,AOK a) :
  Om CC 83 [.t (.int .u8 op),.t (.agg [.sl b b (kl.map Ans.c),.sl b b (nb.map xA)])] []=some (.val (.tup [.t (.agg [.int .u8 (qJ op kl nb).1.v.k,.int .i64 (qJ op kl nb).1.v.n,.str (qJ op kl nb).1.v.s,.int .i64 (qJ op kl nb).1.e]),.t (.bool (qJ op kl nb).2)]),[]):=by
 subst hb;unfold qJ;rw[dif_pos h];exact(zCf op _ _ _ _ kl nb h).choose_spec.1
theorem zST(op:Int)(kl:List Ans)(nb:List Bool):AOK (qJ op kl nb).1:=by
 unfold qJ;split
 ·rename_i h;exact(zCf op _ _ _ _ kl nb h).choose_spec.2.1
 exact xE
theorem zS2(op:Int)(kl:List Ans)(nb:List Bool)(ho:op=7∨op=8∨op=9∨op=10∨op=11∨op=12):TB (if (qJ op kl nb).2 then (qJ op kl nb).1 else zAf op kl nb):=by
 by_cases h:∀a ∈ kl,AOK a
 ·have:=(zCf op kl.isEmpty kl.isEmpty kl.isEmpty kl.isEmpty kl nb h).choose_spec.2.2 ho;have e:qJ op kl nb=(zCf op kl.isEmpty kl.isEmpty kl.isEmpty kl.isEmpty kl nb h).choose:=by unfold qJ;rw[dif_pos h]
  rw[e,this.1,if_pos rfl];exact this.2
 have e:qJ op kl nb=(AZero,false):=by unfold qJ;rw[dif_neg h]
 have e2:zAf op kl nb=AZero:=by unfold zAf;rw[dif_neg (fun x=>h x.1)]
 rw[e,e2];exact zBh
theorem zLM (op:Int) (kl:List Ans) (nb:List Bool) (b:Bool) (hb:kl.isEmpty=b) (h:∀a ∈ kl,AOK a) (hl:kl.length<4294967295) :
  Om CC 84 [.t (.int .u8 op),.t (.agg [.sl b b (kl.map Ans.c),.sl b b (nb.map xA)])] []=some (.val (.t (.agg [.int .u8 (zAf op kl nb).v.k,.int .i64 (zAf op kl nb).v.n,.str (zAf op kl nb).v.s,.int .i64 (zAf op kl nb).e])),[]):=by
 subst hb;unfold zAf;rw[dif_pos ⟨h,hl⟩];exact(zGm op _ _ _ _ kl nb h hl).choose_spec.1
theorem zUc(op:Int)(kl:List Ans)(nb:List Bool):AOK (zAf op kl nb):=by
 unfold zAf;split
 ·rename_i h;exact(zGm op _ _ _ _ kl nb h.1 h.2).choose_spec.2
 exact xE
theorem yCD(name:List Nat)(l:List Bind)(h:∀b ∈ l,VOK b.v):AOK (varA name l):=by
 unfold varA;split
 ·rename_i i hi;refine zMH _ ?_;rw[List.getD_eq_getElem?_getD];cases hi':(l.map Bind.v)[i]? with
  |none=>exact xE
  |some v =>
   obtain⟨b,hb,rfl⟩:=List.mem_map.1 (List.mem_of_getElem? hi');exact h b hb
 exact zDs _
theorem zU8(op:Int)(v:Val)(name:List Nat)(self:Val)(l:List Bind)(hv:VOK v)(hs:VOK self)(h:∀b ∈ l,VOK b.v):AOK (jD op v name self l).1:=by
 unfold jD;split
 ·exact zMH _ hv
 split
 ·exact zMH _ hs
 split
 ·exact yCD _ _ h
 exact xE
def SNode.nul(x:SNode):Bool:=x.op==1&&x.v.k==0
noncomputable def kidA(al:List Ans)(ns:List SNode)(at_:Int):Ans×Bool :=
 if at_<0∨at_ ≥ al.length then (AZero,false) else (getA al at_.toNat,match ns[at_.toNat]? with
  |some x=>x.nul
  |none=>false)
noncomputable def zEQ(al:List Ans)(ns:List SNode)(x:SNode)(self:Val)(vars:List Bind):Ans :=
 if (jD x.op x.v x.name self vars).2 then (jD x.op x.v x.name self vars).1
 else if (qJ x.op (x.kids.map fun k=>(kidA al ns k).1) (x.kids.map fun k=>(kidA al ns k).2)).2 then (qJ x.op (x.kids.map fun k=>(kidA al ns k).1) (x.kids.map fun k=>(kidA al ns k).2)).1
 else zAf x.op (x.kids.map fun k=>(kidA al ns k).1) (x.kids.map fun k=>(kidA al ns k).2)
noncomputable def uF(ns:List SNode)(self:Val)(vars:List Bind):Nat→List Ans
 |0=>[]
 |i+1=>uF ns self vars i++[match ns[i]? with
  |some x=>zEQ (uF ns self vars i) ns x self vars
  |none=>AZero]
noncomputable def zF1(l:List Ans):Ans:=l.getLast?.getD AZero
noncomputable def uW(ns:List SNode)(self:Val)(vars:List Bind):Ans:=zF1 (uF ns self vars ns.length)
theorem uR(ns:List SNode)(self:Val)(vars:List Bind):∀i,(uF ns self vars i).length=i
 |0=>rfl
 |i+1=>by simp [uF,uR ns self vars i]
theorem yAk(al:List Ans)(ns:List SNode)(k:Int)(h:∀a ∈ al,AOK a):AOK (kidA al ns k).1:=by
 unfold kidA;split
 ·exact xE
 exact zBd h _
theorem zVZ(al:List Ans)(ns:List SNode)(x:SNode)(self:Val)(vars:List Bind)(hx:VOK x.v)(hs:VOK self)(hv:∀b ∈ vars,VOK b.v):AOK (zEQ al ns x self vars):=by
 unfold zEQ;split
 ·exact zU8 _ _ _ _ _ hx hs hv
 split
 ·exact zST _ _ _
 exact zUc _ _ _
theorem zKE(ns:List SNode)(self:Val)(vars:List Bind)(hn:∀x ∈ ns,VOK x.v)(hs:VOK self)(hv:∀b ∈ vars,VOK b.v):∀i,∀a ∈ uF ns self vars i,AOK a
 |0,a,h=>by cases h
 |i+1,a,h=>by
  rcases List.mem_append.1 h with h|h
  ·exact zKE ns self vars hn hs hv i a h
  rw[List.mem_singleton.1 h];cases hx:ns[i]? with
  |none=>exact xE
  |some x=>exact zVZ _ _ _ _ _ (hn x (List.mem_of_getElem? hx)) hs hv
theorem zVR(l:List Ans)(h:∀a ∈ l,AOK a):AOK (zF1 l):=by
 unfold zF1;cases hl:l.getLast? with
 |none=>exact xE
 |some a=>exact h a (List.mem_of_getLast? hl)
theorem zJt(l:List Ans)(a:Ans):zF1 (l++[a])=a:=by simp [zF1]
theorem zFY(ts:List Tree):∀n,zAZ (List.replicate n (ts.map AV.t))=some (List.replicate n ts)
 |0=>rfl
 |n+1=>by
  have h:∀l:List Tree,trees (l.map AV.t)=some l:=fun l=>by
   induction l with
   |nil=>rfl
   |cons a l ih=>simp [trees,ih]
  simp only[List.replicate_succ,zAZ,h,zFY ts n]
theorem zQA(ts:List Tree)(s n:Nat):zDq s (List.replicate n (ts.map AV.t))=.arr s 0 false (List.replicate n ts):=by
 unfold zDq;rw[zFY]
theorem zTR (T:Sl Node) (self:Val) (vnl vcl:Bool) (vars:List Bind) (hT:T.l.length<4294967295) (hK:∀x ∈ T.l,x.kids.l.length<4294967295) (hvl:vars.length<9223372036854775808)
  (hnv:∀x ∈ T.l,VOK x.v) (hsv:VOK self) (hvv:∀b ∈ vars,VOK b.v) :
  Om CC 39 [.t (.sl T.nl T.cl (T.l.map Node.c)),.t (.agg [.int .u8 self.k,.int .i64 self.n,.str self.s]),.t (.sl vnl vcl (vars.map Bind.c))] [] =
   some (.val (.tup [.t (.agg [.int .u8 (uW (T.l.map Node.s) self vars).v.k,.int .i64 (uW (T.l.map Node.s) self vars).v.n,.str (uW (T.l.map Node.s) self vars).v.s]),.t (.int .i64 (uW (T.l.map Node.s) self vars).e)]),[]):=by
 refine zV yBC rfl ?_
 (have F_:=c5 zK zO zR zL (c5 zI zH zAg yA (c5 zS yB zAb zY (c5 zQ kY xY kV (c5 jB yEa yDs yDr yDp))));show W CC 0 114 (zE 39) _ ⟨[(0,_),(1,_),(2,_)],[]⟩ _)
 have hmk:decide (T.l.length<4294967296)=true:=by simp;omega
 have hrep:=zQA AZero.c 4 T.l.length;simp only[AZero,Ans.c,List.map_cons,List.map_nil] at hrep;have hev:=zKE (T.l.map Node.s) self vars (fun x hx=>by obtain⟨y,hy,rfl⟩:=List.mem_map.1 hx;exact hnv y hy) hsv hvv;have htl:zAZ (List.replicate T.l.length [.t (.int .u8 0),.t (.int .i64 0),.t (.str []),.t (.int .i64 0)])=some (List.replicate T.l.length AZero.c):=zFY AZero.c T.l.length
 repeat' (first|(with_reducible first|apply aA|apply xK|apply wA|apply vA|apply vB|apply xC|apply wJ|apply xT|apply wI|apply xD|apply wZ)|(refine wY (by kernel_rfl) ?_)|(with_reducible first|apply wH|apply wF|apply xS|apply wC|apply wB|apply uD|apply vQ|apply vP|apply uT|apply kG|apply uU|apply vO)|((with_reducible apply zA5);(focus kernel_rfl))|((with_reducible apply zAV);(focus kernel_rfl);(focus kernel_rfl))|(with_reducible first|apply qK|apply qF)|((with_reducible apply qO);(refine⟨by kernel_rfl,?_⟩))|((with_reducible refine zB (fun hg=>?_) (fun hg=>?_))<;>first|(cases hg;done)|skip)|((with_reducible refine zA (fun hg=>?_) (fun hg=>?_))<;>first|(cases hg;done)|skip)|((with_reducible refine zC (fun hg=>?_) (fun hg=>?_))<;>first|(cases hg;done)|skip)|((with_reducible refine zD (fun hg=>?_) (fun hg=>?_))<;>first|(cases hg;done)|skip)|((with_reducible apply zAn);(focus (simp only[zCH,Nat.le_refl,true_or,Int.ofNat_eq_natCast,List.length_map,wanted,exec1,zAu,xBox,kO,kR,xLen,cellsOf,zJ,opds,get,putT,ret,lit,lit1,patch,put1,lenOf,uZ,Nat.zero_add,List.map_cons,List.map_nil,List.length_cons,List.length_nil,Bool.and_self,if_true,Nat.reduceAdd,and_self,zDq,vC,vI,qA,true_or,one1,vY, *];exact rfl)))|((with_reducible apply zAm);(focus (simp only[*];exact rfl)))|((refine qQ (by(simp only[zJ,lit,lit1, *];exact rfl)) (fun hv=>?_) (fun hv=>?_))<;>first|(cases hv;done)|skip))
 refine yS (α:=Nat×List Ans×Ans) (fun a=>⟨[(0,.t (.sl T.nl T.cl (T.l.map Node.c))),(2,.t (.sl vnl vcl (vars.map Bind.c))),(4,.box 0 0),(6,.box 1 0),(8,.hs 2 0),(9,.box 3 0),(20,.t (.sl T.nl T.cl (T.l.map Node.c))),(21,.t (.int .i64 T.l.length)),(22,.t (.int .i64 a.1))],
   [.box [.t (.int .u8 self.k),.t (.int .i64 self.n),.t (.str self.s)],.box (Zero.c.map .t),.arr 4 0 false (a.2.1.map Ans.c),.box (a.2.2.c.map .t)]⟩)
  (fun a=>T.l.length - a.1) (fun a=>a.1≤T.l.length∧a.2.1=uF (T.l.map Node.s) self vars a.1++List.replicate (T.l.length - a.1) AZero∧a.2.2=zF1 (uF (T.l.map Node.s) self vars a.1))
  (0,List.replicate T.l.length AZero,AZero) (by(simp only[yD,zU,F_,tidy,xJ,canon,reach,yK,refs,xH,catMap,depth,renL,ren,renO,sub,sub1,upto,mem,place,fresh,cond_true,Ab.get,nth,List.map,List.zip_cons_cons,List.zip_nil_right,List.take,List.append_nil,List.nil_append,List.cons_append,Bool.and_true,yM,decide_true,decide_false,Nat.reduceEqDiff,Val.c,AZero,Zero,Ans.c,List.map_replicate]<;>exact rfl)) ⟨Nat.zero_le _,by simp [uF],rfl⟩ ?_
 rintro⟨i,all,last⟩ ⟨hi,hall,hlast⟩
 try dsimp only at hi hall hlast
 simp only[Zero,List.map_cons,List.map_nil,Val.c];have hall':all.length=T.l.length:=by rw[hall];simp [uR];omega
 by_cases hi':i<T.l.length
 ·have hw:IntKind.i64.wrap ((i:Int)+1)=((i+1:Nat):Int):=by rw[wrap64]<;>omega
  have he:T.l[i]?=some T.l[i]:=List.getElem?_eq_getElem hi';have hd:decide ((i:Int)<T.l.length)=true:=by simpa using hi'
  have hkl:=hK T.l[i] (List.getElem_mem hi');have hns:(T.l.map Node.s)[i]?=some T.l[i].s:=by rw[List.getElem?_map,he];rfl
  have hnx:=hnv T.l[i] (List.getElem_mem hi');generalize T.l[i]=x at he hkl hns hnx;clear hmk hrep;have hall2:Hid _:=⟨hall⟩
  have hlast2:Hid _:=⟨hlast⟩
  clear hall hlast
  (with_reducible repeat' first|apply aA|refine aB ?_|refine aC ?_|refine aD ?_|(first|apply zB|apply zA|apply zC|apply zD)<;>intro hg<;>try with_unfolding_all cases hg;done|refine aE ?_|refine aF ?_|refine aG ?_|refine aH ?_ ?_<;>intro hv<;>try with_unfolding_all cases hv;done)
  refine yS (α:=Nat×Bool×List Ans×List Bool) (fun a=>⟨[(0,.t (.sl T.nl T.cl (T.l.map Node.c))),(2,.t (.sl vnl vcl (vars.map Bind.c))),(4,.box 0 0),(6,.box 1 0),(8,.hs 2 0),(9,.box 3 0),(10,.t (.int .i64 (i:Int))),(11,.box 4 0),(12,.box 5 0),(20,.t (.sl T.nl T.cl (T.l.map Node.c))),(21,.t (.int .i64 T.l.length)),(22,.t (.int .i64 i)),(28,.t (.sl x.kids.nl x.kids.cl (x.kids.l.map intC))),(29,.t (.int .i64 x.kids.l.length)),(30,.t (.int .i64 a.1))],
   match a.2.1 with
   |true=>[.box [.t (.int .u8 self.k),.t (.int .i64 self.n),.t (.str self.s)],.box (Zero.c.map .t),.arr 4 0 false (all.map Ans.c),.box (last.c.map .t),.box ((Node.c x).map .t),.box [.hs 6 0,.hs 7 0],.arr 4 0 false (a.2.2.1.map Ans.c),.arr 1 0 false (a.2.2.2.map xA)]
   |false=>[.box [.t (.int .u8 self.k),.t (.int .i64 self.n),.t (.str self.s)],.box (Zero.c.map .t),.arr 4 0 false (all.map Ans.c),.box (last.c.map .t),.box ((Node.c x).map .t),.box [.t (.sl true true []),.t (.sl true true [])]]⟩)
   (fun a=>x.kids.l.length - a.1) (fun a=>a.1≤x.kids.l.length∧a.2.1=decide (0<a.1)∧a.2.2.1=(x.kids.l.take a.1).map (fun k=>(kidA (uF (T.l.map Node.s) self vars i) (T.l.map Node.s) k).1)∧a.2.2.2=(x.kids.l.take a.1).map (fun k=>(kidA (uF (T.l.map Node.s) self vars i) (T.l.map Node.s) k).2))
   (0,false,[],[]) (by(simp only[yD,zU,F_,tidy,xJ,canon,reach,yK,refs,xH,catMap,depth,renL,ren,renO,sub,sub1,upto,mem,place,fresh,cond_true,Ab.get,nth,List.map,List.zip_cons_cons,List.zip_nil_right,List.take,List.append_nil,List.nil_append,List.cons_append,Bool.and_true,yM,decide_true,decide_false,Nat.reduceEqDiff,Sl.t,Val.c,Node.c,Zero,Ans.c]<;>exact rfl)) ⟨Nat.zero_le _,rfl,rfl,rfl⟩ ?_
  rintro⟨j,st,kl,nb⟩ ⟨hj,hst,hkls,hnbs⟩
  try dsimp only at hj hst hkls hnbs
  simp only[Zero,List.map_cons,List.map_nil,Val.c]
  by_cases hj':j<x.kids.l.length
  ·have hwj:IntKind.i64.wrap ((j:Int)+1)=((j+1:Nat):Int):=by rw[wrap64]<;>omega
   have hej:x.kids.l[j]?=some x.kids.l[j]:=List.getElem?_eq_getElem hj';have hdj:decide ((j:Int)<x.kids.l.length)=true:=by simpa using hj'
   have htk:x.kids.l.take (j+1)=x.kids.l.take j++[x.kids.l[j]]:=by rw[List.take_add_one,hej];rfl
   have hklen:kl.length=j:=by rw[hkls];simp;omega
   have hnlen:nb.length=j:=by rw[hnbs];simp;omega
   have hle:lens 4 (kl.map Ans.c)=true:=kU Ans.c 4 (fun a=>rfl) kl;have hle2:lens 1 (nb.map xA)=true:=kU xA 1 (fun a=>rfl) nb;have hsm:decide (j+1<4294967296)=true:=by simp;omega
   generalize x.kids.l[j]=k at hej htk;have hq:∀q:Ans×Bool,kidA (uF (T.l.map Node.s) self vars i) (T.l.map Node.s) k=q→(kl++[q.1]=(x.kids.l.take (j+1)).map (fun k=>(kidA (uF (T.l.map Node.s) self vars i) (T.l.map Node.s) k).1))∧(nb++[q.2]=(x.kids.l.take (j+1)).map (fun k=>(kidA (uF (T.l.map Node.s) self vars i) (T.l.map Node.s) k).2)):=fun q hq=>by
    rw[htk,hkls,hnbs];simp [hq]
   clear hkls hnbs htk;have hev2:Hid _:=⟨hev⟩
   clear hev;cases hk0:decide (k<0) with
   |true =>
    have hq2:Hid _:=⟨hq (AZero,false) (by unfold kidA;rw[if_pos];exact .inl (by simpa using hk0))⟩
    clear hq hns;cases st with
    |true =>
     clear hst
     (with_reducible repeat' first|apply aA|refine aB ?_|refine aC ?_|refine aD ?_|(first|apply zB|apply zA|apply zC|apply zD)<;>intro hg<;>try with_unfolding_all cases hg;done|refine aE ?_|refine aF ?_|refine aG ?_|refine aH ?_ ?_<;>intro hv<;>try with_unfolding_all cases hv;done)
     refine zM (j+1,true,kl++[AZero],nb++[false]) (by first|omega|(dsimp only;omega)) ⟨by first|omega|(dsimp only;omega),by simp,hq2.h.1,hq2.h.2⟩ (by(simp only[yD,zU,F_,tidy,xJ,canon,reach,yK,refs,xH,catMap,depth,renL,ren,renO,sub,sub1,upto,mem,place,fresh,cond_true,Ab.get,nth,List.map,List.zip_cons_cons,List.zip_nil_right,List.take,List.append_nil,List.nil_append,List.cons_append,Bool.and_true,yM,decide_true,decide_false,Nat.reduceEqDiff,Nat.beq,Sl.t,Node.c,List.map_append,xA,AZero,Ans.c,]<;>exact rfl))
    |false =>
     have hj0:j=0:=by simpa using hst
     subst hj0;obtain rfl:kl=[]:=List.length_eq_zero_iff.1 hklen;obtain rfl:nb=[]:=List.length_eq_zero_iff.1 hnlen;have hej:x.kids.l[0]?=some _:=hej;clear hst hklen hnlen hle hle2 hsm
     (with_reducible repeat' first|apply aA|refine aB ?_|refine aC ?_|refine aD ?_|(first|apply zB|apply zA|apply zC|apply zD)<;>intro hg<;>try with_unfolding_all cases hg;done|refine aE ?_|refine aF ?_|refine aG ?_|refine aH ?_ ?_<;>intro hv<;>try with_unfolding_all cases hv;done)
     refine zM (1,true,[AZero],[false]) (by first|omega|(dsimp only;omega)) ⟨by first|omega|(dsimp only;omega),rfl,hq2.h.1,hq2.h.2⟩ (by(simp only[yD,zU,F_,tidy,xJ,canon,reach,yK,refs,xH,catMap,depth,renL,ren,renO,sub,sub1,upto,mem,place,fresh,cond_true,Ab.get,nth,List.map,List.zip_cons_cons,List.zip_nil_right,List.take,List.append_nil,List.nil_append,List.cons_append,Bool.and_true,yM,decide_true,decide_false,Nat.reduceEqDiff,Nat.beq,Sl.t,Node.c,xA,AZero,Ans.c,]<;>exact rfl))
   |false =>
    cases hk1:decide (k ≥ (i:Int)) with
    |true =>
     have hq2:Hid _:=⟨hq (AZero,false) (by unfold kidA;rw[if_pos];exact .inr (by rw[uR];simpa using hk1))⟩
     clear hq hns;cases st with
     |true =>
      clear hst
      (with_reducible repeat' first|apply aA|refine aB ?_|refine aC ?_|refine aD ?_|(first|apply zB|apply zA|apply zC|apply zD)<;>intro hg<;>try with_unfolding_all cases hg;done|refine aE ?_|refine aF ?_|refine aG ?_|refine aH ?_ ?_<;>intro hv<;>try with_unfolding_all cases hv;done)
      refine zM (j+1,true,kl++[AZero],nb++[false]) (by first|omega|(dsimp only;omega)) ⟨by first|omega|(dsimp only;omega),by simp,hq2.h.1,hq2.h.2⟩ (by(simp only[yD,zU,F_,tidy,xJ,canon,reach,yK,refs,xH,catMap,depth,renL,ren,renO,sub,sub1,upto,mem,place,fresh,cond_true,Ab.get,nth,List.map,List.zip_cons_cons,List.zip_nil_right,List.take,List.append_nil,List.nil_append,List.cons_append,Bool.and_true,yM,decide_true,decide_false,Nat.reduceEqDiff,Nat.beq,Sl.t,Node.c,List.map_append,xA,AZero,Ans.c,]<;>exact rfl))
     |false =>
      have hj0:j=0:=by simpa using hst
      subst hj0;obtain rfl:kl=[]:=List.length_eq_zero_iff.1 hklen;obtain rfl:nb=[]:=List.length_eq_zero_iff.1 hnlen;have hej:x.kids.l[0]?=some _:=hej;clear hst hklen hnlen hle hle2 hsm
      (with_reducible repeat' first|apply aA|refine aB ?_|refine aC ?_|refine aD ?_|(first|apply zB|apply zA|apply zC|apply zD)<;>intro hg<;>try with_unfolding_all cases hg;done|refine aE ?_|refine aF ?_|refine aG ?_|refine aH ?_ ?_<;>intro hv<;>try with_unfolding_all cases hv;done)
      refine zM (1,true,[AZero],[false]) (by first|omega|(dsimp only;omega)) ⟨by first|omega|(dsimp only;omega),rfl,hq2.h.1,hq2.h.2⟩ (by(simp only[yD,zU,F_,tidy,xJ,canon,reach,yK,refs,xH,catMap,depth,renL,ren,renO,sub,sub1,upto,mem,place,fresh,cond_true,Ab.get,nth,List.map,List.zip_cons_cons,List.zip_nil_right,List.take,List.append_nil,List.nil_append,List.cons_append,Bool.and_true,yM,decide_true,decide_false,Nat.reduceEqDiff,Nat.beq,Sl.t,Node.c,xA,AZero,Ans.c,]<;>exact rfl))
    |false =>
     have h0k:0≤k:=by simpa using hk0
     obtain⟨q,rfl⟩:=Int.eq_ofNat_of_zero_le h0k;have hqi:q<i:=by
                 have:¬ ((q:Int) ≥ i):=by simpa using hk1
                 omega
     have hqT:q<T.l.length:=by omega
     have heq:T.l[q]?=some T.l[q]:=List.getElem?_eq_getElem hqT;have hnq:(T.l.map Node.s)[q]?=some T.l[q].s:=by rw[List.getElem?_map,heq];rfl
     have hga:all[q]?=some (getA (uF (T.l.map Node.s) self vars i) q):=by
      rw[hall2.h,List.getElem?_append_left (by rw[uR];exact hqi)];unfold getA;rw[List.getD_eq_getElem?_getD,List.getElem?_eq_getElem (by rw[uR];exact hqi)];rfl
     have hkid:kidA (uF (T.l.map Node.s) self vars i) (T.l.map Node.s) (q:Int)=(getA (uF (T.l.map Node.s) self vars i) q,T.l[q].s.nul):=by
      unfold kidA;rw[if_neg (by rw[uR];omega)];simp only[Int.toNat_natCast,hnq]
     generalize T.l[q]=y at heq hkid;have hq2:=hq _ hkid;generalize getA (uF (T.l.map Node.s) self vars i) q=ga at hga hq2;have hqT2:(q:Int)<(T.l.length:Int):=by omega
     have hnth:nth (all.map Ans.c) q=some ga.c:=by rw[xB,List.getElem?_map,hga];rfl
     obtain⟨⟨gk,gn,gs⟩,ge⟩:=ga;simp only[Ans.c] at hnth;clear hq hns hnq hkid;have hnull:y.s.nul=(y.op==1&&y.v.k==0):=rfl;rw[hnull] at hq2;clear hnull;cases hop:y.op==1 with
     |true =>
      rw[hop,Bool.true_and] at hq2;have hq2:Hid _:=⟨hq2⟩
      cases st with
      |true =>
       clear hst
       (with_reducible repeat' first|apply aA|refine aB ?_|refine aC ?_|refine aD ?_|(first|apply zB|apply zA|apply zC|apply zD)<;>intro hg<;>try with_unfolding_all cases hg;done|refine aE ?_|refine aF ?_|refine aG ?_|refine aH ?_ ?_<;>intro hv<;>try with_unfolding_all cases hv;done)
       refine zM (j+1,true,kl++[⟨⟨gk,gn,gs⟩,ge⟩],nb++[y.v.k==0]) (by first|omega|(dsimp only;omega)) ⟨by first|omega|(dsimp only;omega),by simp,hq2.h.1,hq2.h.2⟩ (by(simp only[yD,zU,F_,tidy,xJ,canon,reach,yK,refs,xH,catMap,depth,renL,ren,renO,sub,sub1,upto,mem,place,fresh,cond_true,Ab.get,nth,List.map,List.zip_cons_cons,List.zip_nil_right,List.take,List.append_nil,List.nil_append,List.cons_append,Bool.and_true,yM,decide_true,decide_false,Nat.reduceEqDiff,Nat.beq,Sl.t,Node.c,List.map_append,xA,Ans.c,]<;>exact rfl))
      |false =>
       have hj0:j=0:=by simpa using hst
       subst hj0;obtain rfl:kl=[]:=List.length_eq_zero_iff.1 hklen;obtain rfl:nb=[]:=List.length_eq_zero_iff.1 hnlen;have hej:x.kids.l[0]?=some _:=hej;clear hst hklen hnlen hle hle2 hsm
       (with_reducible repeat' first|apply aA|refine aB ?_|refine aC ?_|refine aD ?_|(first|apply zB|apply zA|apply zC|apply zD)<;>intro hg<;>try with_unfolding_all cases hg;done|refine aE ?_|refine aF ?_|refine aG ?_|refine aH ?_ ?_<;>intro hv<;>try with_unfolding_all cases hv;done)
       refine zM (1,true,[⟨⟨gk,gn,gs⟩,ge⟩],[y.v.k==0]) (by first|omega|(dsimp only;omega)) ⟨by first|omega|(dsimp only;omega),rfl,hq2.h.1,hq2.h.2⟩ (by(simp only[yD,zU,F_,tidy,xJ,canon,reach,yK,refs,xH,catMap,depth,renL,ren,renO,sub,sub1,upto,mem,place,fresh,cond_true,Ab.get,nth,List.map,List.zip_cons_cons,List.zip_nil_right,List.take,List.append_nil,List.nil_append,List.cons_append,Bool.and_true,yM,decide_true,decide_false,Nat.reduceEqDiff,Nat.beq,Sl.t,Node.c,xA,Ans.c,]<;>exact rfl))
     |false =>
      rw[hop,Bool.false_and] at hq2;have hq2:Hid _:=⟨hq2⟩
      cases st with
      |true =>
       clear hst
       (with_reducible repeat' first|apply aA|refine aB ?_|refine aC ?_|refine aD ?_|(first|apply zB|apply zA|apply zC|apply zD)<;>intro hg<;>try with_unfolding_all cases hg;done|refine aE ?_|refine aF ?_|refine aG ?_|refine aH ?_ ?_<;>intro hv<;>try with_unfolding_all cases hv;done)
       refine zM (j+1,true,kl++[⟨⟨gk,gn,gs⟩,ge⟩],nb++[false]) (by first|omega|(dsimp only;omega)) ⟨by first|omega|(dsimp only;omega),by simp,hq2.h.1,hq2.h.2⟩ (by(simp only[yD,zU,F_,tidy,xJ,canon,reach,yK,refs,xH,catMap,depth,renL,ren,renO,sub,sub1,upto,mem,place,fresh,cond_true,Ab.get,nth,List.map,List.zip_cons_cons,List.zip_nil_right,List.take,List.append_nil,List.nil_append,List.cons_append,Bool.and_true,yM,decide_true,decide_false,Nat.reduceEqDiff,Nat.beq,Sl.t,Node.c,List.map_append,xA,Ans.c,]<;>exact rfl))
      |false =>
       have hj0:j=0:=by simpa using hst
       subst hj0;obtain rfl:kl=[]:=List.length_eq_zero_iff.1 hklen;obtain rfl:nb=[]:=List.length_eq_zero_iff.1 hnlen;have hej:x.kids.l[0]?=some _:=hej;clear hst hklen hnlen hle hle2 hsm
       (with_reducible repeat' first|apply aA|refine aB ?_|refine aC ?_|refine aD ?_|(first|apply zB|apply zA|apply zC|apply zD)<;>intro hg<;>try with_unfolding_all cases hg;done|refine aE ?_|refine aF ?_|refine aG ?_|refine aH ?_ ?_<;>intro hv<;>try with_unfolding_all cases hv;done)
       refine zM (1,true,[⟨⟨gk,gn,gs⟩,ge⟩],[false]) (by first|omega|(dsimp only;omega)) ⟨by first|omega|(dsimp only;omega),rfl,hq2.h.1,hq2.h.2⟩ (by(simp only[yD,zU,F_,tidy,xJ,canon,reach,yK,refs,xH,catMap,depth,renL,ren,renO,sub,sub1,upto,mem,place,fresh,cond_true,Ab.get,nth,List.map,List.zip_cons_cons,List.zip_nil_right,List.take,List.append_nil,List.nil_append,List.cons_append,Bool.and_true,yM,decide_true,decide_false,Nat.reduceEqDiff,Nat.beq,Sl.t,Node.c,xA,Ans.c,]<;>exact rfl))
  have hdj:decide ((j:Int)<x.kids.l.length)=false:=by simpa using hj'
  have hjl:j=x.kids.l.length:=by omega
  have hi2:(i:Int)<(T.l.length:Int):=by omega
  have hi0:(0:Int)≤(i:Int):=by omega
  have hnthi:nth (all.map Ans.c) i=some AZero.c:=by
   rw[xB,List.getElem?_map,hall2.h,List.getElem?_append_right (by rw[uR];exact Nat.le_refl _),uR,Nat.sub_self];have hr:T.l.length - i=(T.l.length - (i+1))+1:=by omega
   rw[hr,List.replicate_succ];rfl
  simp only[AZero,Ans.c] at hnthi;have hlf:=zVH x.op x.v x.name (.sl x.kids.nl x.kids.cl (x.kids.l.map intC)) (.int .i64 x.line) (.int .i64 x.col) self vnl vcl vars hvl;have hklp:∀a ∈ kl,AOK a:=by
   rw[hkls];intro a ha;obtain⟨k,_,rfl⟩:=List.mem_map.1 ha;exact yAk _ _ _ (hev i)
  have hkl2:kl.length<4294967295:=by rw[hkls];simp;omega
  have hklen:kl.length=j:=by rw[hkls];simp;omega
  have hnode:zEQ (uF (T.l.map Node.s) self vars i) (T.l.map Node.s) x.s self vars=if (jD x.op x.v x.name self vars).2 then (jD x.op x.v x.name self vars).1 else if (qJ x.op kl nb).2 then (qJ x.op kl nb).1 else zAf x.op kl nb:=by
   rw[hjl,List.take_length] at hkls hnbs;unfold zEQ;rw[hkls,hnbs];rfl
  have hstep:∀a,zEQ (uF (T.l.map Node.s) self vars i) (T.l.map Node.s) x.s self vars=a→all.set i a=uF (T.l.map Node.s) self vars (i+1)++List.replicate (T.l.length - (i+1)) AZero∧a=zF1 (uF (T.l.map Node.s) self vars (i+1)):=fun a ha=>by
   have he1:uF (T.l.map Node.s) self vars (i+1)=uF (T.l.map Node.s) self vars i++[a]:=by rw[uF,hns];simp only[ha]
   rw[he1];refine⟨?_,(zJt _ _).symm⟩;rw[hall2.h,List.set_append_right _ _ (by rw[uR];exact Nat.le_refl _),uR,Nat.sub_self];have hr:T.l.length - i=(T.l.length - (i+1))+1:=by omega
   rw[hr,List.replicate_succ,List.set_cons_zero,List.append_assoc];rfl
  have hnb0':j=0→nb=[]:=fun h=>by rw[hnbs,h];rfl
  have hev2:Hid _:=⟨hev⟩
  clear hkls hnbs hev hns hjl;cases st with
  |true =>
   have hemp:kl.isEmpty=false:=by
    cases kl with
    |nil=>simp at hst hklen;omega
    |cons a l=>rfl
   clear hst hklen hnb0';have htr:=zLj x.op kl nb false hemp hklp;have hot:=zLM x.op kl nb false hemp hklp hkl2;clear hklp hkl2 hemp;generalize jD x.op x.v x.name self vars=lf at hlf hnode;generalize qJ x.op kl nb=tr at htr hnode;generalize zAf x.op kl nb=ot at hot hnode;obtain⟨⟨⟨lk,ln,ls⟩,le⟩,lb⟩:=lf;obtain⟨⟨⟨tk,tn,tS⟩,te⟩,tb⟩:=tr;obtain⟨⟨ok,on,os⟩,oe⟩:=ot;have hstep2:Hid _:=⟨hstep⟩
   have hnode2:Hid _:=⟨hnode⟩
   clear hstep hnode;simp only[] at htr hot;cases lb with
   |true =>
    have hfin:=hstep2.h ⟨⟨lk,ln,ls⟩,le⟩ (by rw[hnode2.h];rfl)
    repeat' (first|(with_reducible first|apply aA|apply xK|apply wA|apply vA|apply vB|apply xC|apply wJ|apply xT|apply wI|apply xD|apply wZ)|(refine wY (by kernel_rfl) ?_)|(with_reducible first|apply wH|apply wF|apply xS|apply wC|apply wB|apply uD|apply vQ|apply vP|apply uT|apply kG|apply uU|apply vO)|((with_reducible apply zA5);(focus kernel_rfl))|((with_reducible apply zAV);(focus kernel_rfl);(focus kernel_rfl))|(with_reducible first|apply qK|apply qF)|((with_reducible apply qO);(refine⟨by kernel_rfl,?_⟩))|((with_reducible refine zB (fun hg=>?_) (fun hg=>?_))<;>first|(cases hg;done)|skip)|((with_reducible refine zA (fun hg=>?_) (fun hg=>?_))<;>first|(cases hg;done)|skip)|((with_reducible refine zC (fun hg=>?_) (fun hg=>?_))<;>first|(cases hg;done)|skip)|((with_reducible refine zD (fun hg=>?_) (fun hg=>?_))<;>first|(cases hg;done)|skip)|((with_reducible apply zAn);(focus (simp only[vX,wG,reach,yK,refs,catMap,depth,sub,sub1,renL,ren,mem,place,fresh,yW,plain,uK,view,yE,yH,vR,zZ,ne_eq,not_false_eq_true,cond_false,List.all_cons,List.all_nil,view,yE,yH,catMap,xM,Ans.c,wanted,exec1,zAu,kO,qG,uN,cellsOf,zJ,opds,get,putT,ret,retO,lit,lit1,patch,put1,load,loadCells,cut,mkAgg,trees,nth,storeAt,upd,splice,xM,uZ,zBq,zAN,zAC,Nat.zero_add,List.map_cons,List.map_nil,List.length_cons,List.length_nil,List.take,List.drop,List.all_cons,List.all_nil,List.nil_append,List.append_nil,Bool.not_true,Bool.and_self,if_true,Nat.reduceAdd,Nat.reduceLeDiff,Nat.reduceEqDiff,Sl.t,Node.c,and_self,vX,wG,reach,yK,refs,catMap,depth,sub,sub1,renL,ren,mem,place,fresh,yW,plain,uK,view,yE,yH,vR,zZ,ne_eq,not_false_eq_true,cond_false,vC,vI,qA,one1,vY,jA,jU, *];exact rfl)))|((with_reducible apply zAm);(focus (simp only[depth,view,yE,yH,vH,Nat.reduceLT,List.all_cons,List.all_nil,view,yE,yH,xM,vH,kI,Int.toNat_natCast,decide_true,List.length_map,wanted,exec1,qG,vU,cellsOf,zJ,get,putT,ret,retO,patch,put1,load,loadCells,cut,mkAgg,trees,nth,indexAddr,storeAt,upd,splice,xM,uZ,Nat.zero_add,List.map_cons,List.map_nil,List.length_cons,List.length_nil,List.take,List.drop,List.all_cons,List.all_nil,List.nil_append,List.append_nil,Bool.and_self,if_true,Nat.reduceAdd,Nat.reduceLeDiff,and_self,depth,view,yE,yH,vH,Nat.reduceLT,zAh,zAB,zAz,vM,foot,names,zBY,Int.toNat_natCast,Nat.reduceLT, *];exact rfl)))|((refine qQ (by(simp only[zJ,get,lit,lit1, *];exact rfl)) (fun hv=>?_) (fun hv=>?_))<;>first|(cases hv;done)|skip))
    refine zM (i+1,all.set i ⟨⟨lk,ln,ls⟩,le⟩,⟨⟨lk,ln,ls⟩,le⟩) (by first|omega|(dsimp only;omega)) ⟨by first|omega|(dsimp only;omega),hfin.1,hfin.2⟩ (by(simp only[yD,zU,F_,tidy,xJ,canon,reach,yK,refs,xH,catMap,depth,renL,ren,renO,sub,sub1,upto,mem,place,fresh,cond_true,Ab.get,nth,List.map,List.zip_cons_cons,List.zip_nil_right,List.take,List.append_nil,List.nil_append,List.cons_append,Bool.and_true,yM,decide_true,decide_false,Nat.reduceEqDiff,kM,List.map_set,Ans.c]<;>exact rfl))
   |false =>
    cases tb with
    |true =>
     have hfin:=hstep2.h ⟨⟨tk,tn,tS⟩,te⟩ (by rw[hnode2.h];rfl)
     repeat' (first|(with_reducible first|apply aA|apply xK|apply wA|apply vA|apply vB|apply xC|apply wJ|apply xT|apply wI|apply xD|apply wZ)|(refine wY (by kernel_rfl) ?_)|(with_reducible first|apply wH|apply wF|apply xS|apply wC|apply wB|apply uD|apply vQ|apply vP|apply uT|apply kG|apply uU|apply vO)|((with_reducible apply zA5);(focus kernel_rfl))|((with_reducible apply zAV);(focus kernel_rfl);(focus kernel_rfl))|(with_reducible first|apply qK|apply qF)|((with_reducible apply qO);(refine⟨by kernel_rfl,?_⟩))|((with_reducible refine zB (fun hg=>?_) (fun hg=>?_))<;>first|(cases hg;done)|skip)|((with_reducible refine zA (fun hg=>?_) (fun hg=>?_))<;>first|(cases hg;done)|skip)|((with_reducible refine zC (fun hg=>?_) (fun hg=>?_))<;>first|(cases hg;done)|skip)|((with_reducible refine zD (fun hg=>?_) (fun hg=>?_))<;>first|(cases hg;done)|skip)|((with_reducible apply zAn);(focus (simp only[vX,wG,reach,yK,refs,catMap,depth,sub,sub1,renL,ren,mem,place,fresh,yW,plain,uK,view,yE,yH,vR,zZ,ne_eq,not_false_eq_true,cond_false,elems,elems,List.all_cons,List.all_nil,view,yE,yH,catMap,xM,Ans.c,wanted,exec1,zAu,kO,qG,uN,cellsOf,zJ,opds,get,putT,ret,retO,lit,lit1,patch,put1,load,loadCells,cut,yL,mkAgg,trees,nth,storeAt,upd,splice,xM,uZ,zBq,zAN,zAC,Nat.zero_add,Nat.add_zero,List.map_cons,List.map_nil,List.length_cons,List.length_nil,List.take,List.drop,List.all_cons,List.all_nil,List.cons_append,List.nil_append,List.append_nil,Bool.not_true,Bool.not_false,Bool.and_self,if_true,Nat.reduceAdd,Nat.reduceLeDiff,Nat.reduceEqDiff,Sl.t,Node.c,and_self,vX,wG,reach,yK,refs,catMap,depth,sub,sub1,renL,ren,mem,place,fresh,yW,plain,uK,view,yE,yH,vR,zZ,ne_eq,not_false_eq_true,cond_false,elems,vC,vI,qA,one1,vY,jA,jU, *];exact rfl)))|((with_reducible apply zAm);(focus (simp only[depth,view,yE,yH,vH,Nat.reduceLT,List.all_cons,List.all_nil,view,yE,yH,xM,vH,kI,Int.toNat_natCast,decide_true,List.length_map,wanted,exec1,qG,vU,cellsOf,zJ,get,putT,ret,retO,patch,put1,load,loadCells,cut,mkAgg,trees,nth,indexAddr,storeAt,upd,splice,xM,uZ,Nat.zero_add,List.map_cons,List.map_nil,List.length_cons,List.length_nil,List.take,List.drop,List.all_cons,List.all_nil,List.nil_append,List.append_nil,Bool.and_self,if_true,Nat.reduceAdd,Nat.reduceLeDiff,and_self,depth,view,yE,yH,vH,Nat.reduceLT,zAh,zAB,zAz,vM,foot,names,zBY,Int.toNat_natCast,Nat.reduceLT, *];exact rfl)))|((refine qQ (by(simp only[zJ,get,lit,lit1, *];exact rfl)) (fun hv=>?_) (fun hv=>?_))<;>first|(cases hv;done)|skip))
     refine zM (i+1,all.set i ⟨⟨tk,tn,tS⟩,te⟩,⟨⟨tk,tn,tS⟩,te⟩) (by first|omega|(dsimp only;omega)) ⟨by first|omega|(dsimp only;omega),hfin.1,hfin.2⟩ (by(simp only[yD,zU,F_,tidy,xJ,canon,reach,yK,refs,xH,catMap,depth,renL,ren,renO,sub,sub1,upto,mem,place,fresh,cond_true,Ab.get,nth,List.map,List.zip_cons_cons,List.zip_nil_right,List.take,List.append_nil,List.nil_append,List.cons_append,Bool.and_true,yM,decide_true,decide_false,Nat.reduceEqDiff,kM,List.map_set,Ans.c]<;>exact rfl))
    |false =>
     have hfin:=hstep2.h ⟨⟨ok,on,os⟩,oe⟩ (by rw[hnode2.h];rfl)
     repeat' (first|(with_reducible first|apply aA|apply xK|apply wA|apply vA|apply vB|apply xC|apply wJ|apply xT|apply wI|apply xD|apply wZ)|(refine wY (by kernel_rfl) ?_)|(with_reducible first|apply wH|apply wF|apply xS|apply wC|apply wB|apply uD|apply vQ|apply vP|apply uT|apply kG|apply uU|apply vO)|((with_reducible apply zA5);(focus kernel_rfl))|((with_reducible apply zAV);(focus kernel_rfl);(focus kernel_rfl))|(with_reducible first|apply qK|apply qF)|((with_reducible apply qO);(refine⟨by kernel_rfl,?_⟩))|((with_reducible refine zB (fun hg=>?_) (fun hg=>?_))<;>first|(cases hg;done)|skip)|((with_reducible refine zA (fun hg=>?_) (fun hg=>?_))<;>first|(cases hg;done)|skip)|((with_reducible refine zC (fun hg=>?_) (fun hg=>?_))<;>first|(cases hg;done)|skip)|((with_reducible refine zD (fun hg=>?_) (fun hg=>?_))<;>first|(cases hg;done)|skip)|((with_reducible apply zAn);(focus (simp only[vX,wG,reach,yK,refs,catMap,depth,sub,sub1,renL,ren,mem,place,fresh,yW,plain,uK,view,yE,yH,vR,zZ,ne_eq,not_false_eq_true,cond_false,elems,elems,List.all_cons,List.all_nil,view,yE,yH,catMap,xM,Ans.c,wanted,exec1,zAu,kO,qG,uN,cellsOf,zJ,opds,get,putT,ret,retO,lit,lit1,patch,put1,load,loadCells,cut,yL,mkAgg,trees,nth,storeAt,upd,splice,xM,uZ,zBq,zAN,zAC,Nat.zero_add,Nat.add_zero,List.map_cons,List.map_nil,List.length_cons,List.length_nil,List.take,List.drop,List.all_cons,List.all_nil,List.cons_append,List.nil_append,List.append_nil,Bool.not_false,Bool.and_self,if_true,Nat.reduceAdd,Nat.reduceLeDiff,Nat.reduceEqDiff,Sl.t,Node.c,and_self,vX,wG,reach,yK,refs,catMap,depth,sub,sub1,renL,ren,mem,place,fresh,yW,plain,uK,view,yE,yH,vR,zZ,ne_eq,not_false_eq_true,cond_false,elems,vC,vI,qA,one1,vY,jA,jU, *];exact rfl)))|((with_reducible apply zAm);(focus (simp only[depth,view,yE,yH,vH,Nat.reduceLT,List.all_cons,List.all_nil,view,yE,yH,xM,vH,kI,Int.toNat_natCast,decide_true,List.length_map,wanted,exec1,qG,vU,cellsOf,zJ,get,putT,ret,retO,patch,put1,load,loadCells,cut,mkAgg,trees,nth,indexAddr,storeAt,upd,splice,xM,uZ,Nat.zero_add,List.map_cons,List.map_nil,List.length_cons,List.length_nil,List.take,List.drop,List.all_cons,List.all_nil,List.nil_append,List.append_nil,Bool.and_self,if_true,Nat.reduceAdd,Nat.reduceLeDiff,and_self,depth,view,yE,yH,vH,Nat.reduceLT,zAh,zAB,zAz,vM,foot,names,zBY,Int.toNat_natCast,Nat.reduceLT, *];exact rfl)))|((refine qQ (by(simp only[zJ,get,lit,lit1, *];exact rfl)) (fun hv=>?_) (fun hv=>?_))<;>first|(cases hv;done)|skip))
     refine zM (i+1,all.set i ⟨⟨ok,on,os⟩,oe⟩,⟨⟨ok,on,os⟩,oe⟩) (by first|omega|(dsimp only;omega)) ⟨by first|omega|(dsimp only;omega),hfin.1,hfin.2⟩ (by(simp only[yD,zU,F_,tidy,xJ,canon,reach,yK,refs,xH,catMap,depth,renL,ren,renO,sub,sub1,upto,mem,place,fresh,cond_true,Ab.get,nth,List.map,List.zip_cons_cons,List.zip_nil_right,List.take,List.append_nil,List.nil_append,List.cons_append,Bool.and_true,yM,decide_true,decide_false,Nat.reduceEqDiff,kM,List.map_set,Ans.c]<;>exact rfl))
  |false =>
   have hj0:j=0:=by simpa using hst
   have hkl0:kl=[]:=List.length_eq_zero_iff.1 (by omega);subst hkl0;have hnb0:nb=[]:=hnb0' hj0;subst hnb0;have hemp:([]:List Ans).isEmpty=true:=rfl;clear hst hklen hnb0' hj0;have htr:=zLj x.op ([]:List Ans) ([]:List Bool) true hemp hklp;have hot:=zLM x.op ([]:List Ans) ([]:List Bool) true hemp hklp hkl2;clear hklp hkl2 hemp;generalize jD x.op x.v x.name self vars=lf at hlf hnode;generalize qJ x.op ([]:List Ans) ([]:List Bool)=tr at htr hnode;generalize zAf x.op ([]:List Ans) ([]:List Bool)=ot at hot hnode;obtain⟨⟨⟨lk,ln,ls⟩,le⟩,lb⟩:=lf;obtain⟨⟨⟨tk,tn,tS⟩,te⟩,tb⟩:=tr;obtain⟨⟨ok,on,os⟩,oe⟩:=ot;have hstep2:Hid _:=⟨hstep⟩
   have hnode2:Hid _:=⟨hnode⟩
   clear hstep hnode;simp only[List.map_nil] at htr hot;cases lb with
   |true =>
    have hfin:=hstep2.h ⟨⟨lk,ln,ls⟩,le⟩ (by rw[hnode2.h];rfl)
    repeat' (first|(with_reducible first|apply aA|apply xK|apply wA|apply vA|apply vB|apply xC|apply wJ|apply xT|apply wI|apply xD|apply wZ)|(refine wY (by kernel_rfl) ?_)|(with_reducible first|apply wH|apply wF|apply xS|apply wC|apply wB|apply uD|apply vQ|apply vP|apply uT|apply kG|apply uU|apply vO)|((with_reducible apply zA5);(focus kernel_rfl))|((with_reducible apply zAV);(focus kernel_rfl);(focus kernel_rfl))|(with_reducible first|apply qK|apply qF)|((with_reducible apply qO);(refine⟨by kernel_rfl,?_⟩))|((with_reducible refine zB (fun hg=>?_) (fun hg=>?_))<;>first|(cases hg;done)|skip)|((with_reducible refine zA (fun hg=>?_) (fun hg=>?_))<;>first|(cases hg;done)|skip)|((with_reducible refine zC (fun hg=>?_) (fun hg=>?_))<;>first|(cases hg;done)|skip)|((with_reducible refine zD (fun hg=>?_) (fun hg=>?_))<;>first|(cases hg;done)|skip)|((with_reducible apply zAn);(focus (simp only[vX,wG,reach,yK,refs,catMap,depth,sub,sub1,renL,ren,mem,place,fresh,yW,plain,uK,view,yE,yH,vR,zZ,ne_eq,not_false_eq_true,cond_false,List.all_cons,List.all_nil,view,yE,yH,catMap,xM,Ans.c,wanted,exec1,zAu,kO,qG,uN,cellsOf,zJ,opds,get,putT,ret,retO,lit,lit1,patch,put1,load,loadCells,cut,mkAgg,trees,nth,storeAt,upd,splice,xM,uZ,zBq,zAN,zAC,Nat.zero_add,List.map_cons,List.map_nil,List.length_cons,List.length_nil,List.take,List.drop,List.all_cons,List.all_nil,List.nil_append,List.append_nil,Bool.not_true,Bool.and_self,if_true,Nat.reduceAdd,Nat.reduceLeDiff,Nat.reduceEqDiff,Sl.t,Node.c,and_self,vX,wG,reach,yK,refs,catMap,depth,sub,sub1,renL,ren,mem,place,fresh,yW,plain,uK,view,yE,yH,vR,zZ,ne_eq,not_false_eq_true,cond_false,vC,vI,qA,one1,vY,jA,jU, *];exact rfl)))|((with_reducible apply zAm);(focus (simp only[depth,view,yE,yH,vH,Nat.reduceLT,List.all_cons,List.all_nil,view,yE,yH,xM,vH,kI,Int.toNat_natCast,decide_true,List.length_map,wanted,exec1,qG,vU,cellsOf,zJ,get,putT,ret,retO,patch,put1,load,loadCells,cut,mkAgg,trees,nth,indexAddr,storeAt,upd,splice,xM,uZ,Nat.zero_add,List.map_cons,List.map_nil,List.length_cons,List.length_nil,List.take,List.drop,List.all_cons,List.all_nil,List.nil_append,List.append_nil,Bool.and_self,if_true,Nat.reduceAdd,Nat.reduceLeDiff,and_self,depth,view,yE,yH,vH,Nat.reduceLT,zAh,zAB,zAz,vM,foot,names,zBY,Int.toNat_natCast,Nat.reduceLT, *];exact rfl)))|((refine qQ (by(simp only[zJ,get,lit,lit1, *];exact rfl)) (fun hv=>?_) (fun hv=>?_))<;>first|(cases hv;done)|skip))
    refine zM (i+1,all.set i ⟨⟨lk,ln,ls⟩,le⟩,⟨⟨lk,ln,ls⟩,le⟩) (by first|omega|(dsimp only;omega)) ⟨by first|omega|(dsimp only;omega),hfin.1,hfin.2⟩ (by(simp only[yD,zU,F_,tidy,xJ,canon,reach,yK,refs,xH,catMap,depth,renL,ren,renO,sub,sub1,upto,mem,place,fresh,cond_true,Ab.get,nth,List.map,List.zip_cons_cons,List.zip_nil_right,List.take,List.append_nil,List.nil_append,List.cons_append,Bool.and_true,yM,decide_true,decide_false,Nat.reduceEqDiff,kM,List.map_set,Ans.c]<;>exact rfl))
   |false =>
    cases tb with
    |true =>
     have hfin:=hstep2.h ⟨⟨tk,tn,tS⟩,te⟩ (by rw[hnode2.h];rfl)
     repeat' (first|(with_reducible first|apply aA|apply xK|apply wA|apply vA|apply vB|apply xC|apply wJ|apply xT|apply wI|apply xD|apply wZ)|(refine wY (by kernel_rfl) ?_)|(with_reducible first|apply wH|apply wF|apply xS|apply wC|apply wB|apply uD|apply vQ|apply vP|apply uT|apply kG|apply uU|apply vO)|((with_reducible apply zA5);(focus kernel_rfl))|((with_reducible apply zAV);(focus kernel_rfl);(focus kernel_rfl))|(with_reducible first|apply qK|apply qF)|((with_reducible apply qO);(refine⟨by kernel_rfl,?_⟩))|((with_reducible refine zB (fun hg=>?_) (fun hg=>?_))<;>first|(cases hg;done)|skip)|((with_reducible refine zA (fun hg=>?_) (fun hg=>?_))<;>first|(cases hg;done)|skip)|((with_reducible refine zC (fun hg=>?_) (fun hg=>?_))<;>first|(cases hg;done)|skip)|((with_reducible refine zD (fun hg=>?_) (fun hg=>?_))<;>first|(cases hg;done)|skip)|((with_reducible apply zAn);(focus (simp only[vX,wG,reach,yK,refs,catMap,depth,sub,sub1,renL,ren,mem,place,fresh,yW,plain,uK,view,yE,yH,vR,zZ,ne_eq,not_false_eq_true,cond_false,List.all_cons,List.all_nil,view,yE,yH,catMap,xM,Ans.c,wanted,exec1,zAu,kO,qG,uN,cellsOf,zJ,opds,get,putT,ret,retO,lit,lit1,patch,put1,load,loadCells,cut,yL,mkAgg,trees,nth,storeAt,upd,splice,xM,uZ,zBq,zAN,zAC,Nat.zero_add,Nat.add_zero,List.map_cons,List.map_nil,List.length_cons,List.length_nil,List.take,List.drop,List.all_cons,List.all_nil,List.nil_append,List.append_nil,Bool.not_true,Bool.not_false,Bool.and_self,if_true,Nat.reduceAdd,Nat.reduceLeDiff,Nat.reduceEqDiff,Sl.t,Node.c,and_self,vX,wG,reach,yK,refs,catMap,depth,sub,sub1,renL,ren,mem,place,fresh,yW,plain,uK,view,yE,yH,vR,zZ,ne_eq,not_false_eq_true,cond_false,vC,vI,qA,one1,vY,jA,jU, *];exact rfl)))|((with_reducible apply zAm);(focus (simp only[depth,view,yE,yH,vH,Nat.reduceLT,List.all_cons,List.all_nil,view,yE,yH,xM,vH,kI,Int.toNat_natCast,decide_true,List.length_map,wanted,exec1,qG,vU,cellsOf,zJ,get,putT,ret,retO,patch,put1,load,loadCells,cut,mkAgg,trees,nth,indexAddr,storeAt,upd,splice,xM,uZ,Nat.zero_add,List.map_cons,List.map_nil,List.length_cons,List.length_nil,List.take,List.drop,List.all_cons,List.all_nil,List.nil_append,List.append_nil,Bool.and_self,if_true,Nat.reduceAdd,Nat.reduceLeDiff,and_self,depth,view,yE,yH,vH,Nat.reduceLT,zAh,zAB,zAz,vM,foot,names,zBY,Int.toNat_natCast,Nat.reduceLT, *];exact rfl)))|((refine qQ (by(simp only[zJ,get,lit,lit1, *];exact rfl)) (fun hv=>?_) (fun hv=>?_))<;>first|(cases hv;done)|skip))
     refine zM (i+1,all.set i ⟨⟨tk,tn,tS⟩,te⟩,⟨⟨tk,tn,tS⟩,te⟩) (by first|omega|(dsimp only;omega)) ⟨by first|omega|(dsimp only;omega),hfin.1,hfin.2⟩ (by(simp only[yD,zU,F_,tidy,xJ,canon,reach,yK,refs,xH,catMap,depth,renL,ren,renO,sub,sub1,upto,mem,place,fresh,cond_true,Ab.get,nth,List.map,List.zip_cons_cons,List.zip_nil_right,List.take,List.append_nil,List.nil_append,List.cons_append,Bool.and_true,yM,decide_true,decide_false,Nat.reduceEqDiff,kM,List.map_set,Ans.c]<;>exact rfl))
    |false =>
     have hfin:=hstep2.h ⟨⟨ok,on,os⟩,oe⟩ (by rw[hnode2.h];rfl)
     repeat' (first|(with_reducible first|apply aA|apply xK|apply wA|apply vA|apply vB|apply xC|apply wJ|apply xT|apply wI|apply xD|apply wZ)|(refine wY (by kernel_rfl) ?_)|(with_reducible first|apply wH|apply wF|apply xS|apply wC|apply wB|apply uD|apply vQ|apply vP|apply uT|apply kG|apply uU|apply vO)|((with_reducible apply zA5);(focus kernel_rfl))|((with_reducible apply zAV);(focus kernel_rfl);(focus kernel_rfl))|(with_reducible first|apply qK|apply qF)|((with_reducible apply qO);(refine⟨by kernel_rfl,?_⟩))|((with_reducible refine zB (fun hg=>?_) (fun hg=>?_))<;>first|(cases hg;done)|skip)|((with_reducible refine zA (fun hg=>?_) (fun hg=>?_))<;>first|(cases hg;done)|skip)|((with_reducible refine zC (fun hg=>?_) (fun hg=>?_))<;>first|(cases hg;done)|skip)|((with_reducible refine zD (fun hg=>?_) (fun hg=>?_))<;>first|(cases hg;done)|skip)|((with_reducible apply zAn);(focus (simp only[vX,wG,reach,yK,refs,catMap,depth,sub,sub1,renL,ren,mem,place,fresh,yW,plain,uK,view,yE,yH,vR,zZ,ne_eq,not_false_eq_true,cond_false,List.all_cons,List.all_nil,view,yE,yH,catMap,xM,Ans.c,wanted,exec1,zAu,kO,qG,uN,cellsOf,zJ,opds,get,putT,ret,retO,lit,lit1,patch,put1,load,loadCells,cut,yL,mkAgg,trees,nth,storeAt,upd,splice,xM,uZ,zBq,zAN,zAC,Nat.zero_add,Nat.add_zero,List.map_cons,List.map_nil,List.length_cons,List.length_nil,List.take,List.drop,List.all_cons,List.all_nil,List.nil_append,List.append_nil,Bool.not_false,Bool.and_self,if_true,Nat.reduceAdd,Nat.reduceLeDiff,Nat.reduceEqDiff,Sl.t,Node.c,and_self,vX,wG,reach,yK,refs,catMap,depth,sub,sub1,renL,ren,mem,place,fresh,yW,plain,uK,view,yE,yH,vR,zZ,ne_eq,not_false_eq_true,cond_false,vC,vI,qA,one1,vY,jA,jU, *];exact rfl)))|((with_reducible apply zAm);(focus (simp only[depth,view,yE,yH,vH,Nat.reduceLT,List.all_cons,List.all_nil,view,yE,yH,xM,vH,kI,Int.toNat_natCast,decide_true,List.length_map,wanted,exec1,qG,vU,cellsOf,zJ,get,putT,ret,retO,patch,put1,load,loadCells,cut,mkAgg,trees,nth,indexAddr,storeAt,upd,splice,xM,uZ,Nat.zero_add,List.map_cons,List.map_nil,List.length_cons,List.length_nil,List.take,List.drop,List.all_cons,List.all_nil,List.nil_append,List.append_nil,Bool.and_self,if_true,Nat.reduceAdd,Nat.reduceLeDiff,and_self,depth,view,yE,yH,vH,Nat.reduceLT,zAh,zAB,zAz,vM,foot,names,zBY,Int.toNat_natCast,Nat.reduceLT, *];exact rfl)))|((refine qQ (by(simp only[zJ,get,lit,lit1, *];exact rfl)) (fun hv=>?_) (fun hv=>?_))<;>first|(cases hv;done)|skip))
     refine zM (i+1,all.set i ⟨⟨ok,on,os⟩,oe⟩,⟨⟨ok,on,os⟩,oe⟩) (by first|omega|(dsimp only;omega)) ⟨by first|omega|(dsimp only;omega),hfin.1,hfin.2⟩ (by(simp only[yD,zU,F_,tidy,xJ,canon,reach,yK,refs,xH,catMap,depth,renL,ren,renO,sub,sub1,upto,mem,place,fresh,cond_true,Ab.get,nth,List.map,List.zip_cons_cons,List.zip_nil_right,List.take,List.append_nil,List.nil_append,List.cons_append,Bool.and_true,yM,decide_true,decide_false,Nat.reduceEqDiff,kM,List.map_set,Ans.c]<;>exact rfl))
 have hd:decide ((i:Int)<T.l.length)=false:=by simpa using hi'
 have hil:i=T.l.length:=by omega
 have hE:uW (T.l.map Node.s) self vars=last:=by unfold uW;rw[List.length_map,← hil];exact hlast.symm
 rw[hE];clear hall hlast hev hE hil;obtain⟨⟨lk,ln,ls⟩,le⟩:=last
 (have x0_:=@Ans.c.eq_1;(with_reducible repeat' first|apply aA|refine aB ?_|refine aC ?_|refine aD ?_|(first|apply zB|apply zA|apply zC|apply zD)<;>intro hg<;>try with_unfolding_all cases hg;done|refine aE ?_|refine aF ?_|refine aG ?_|refine aH ?_ ?_<;>intro hv<;>try with_unfolding_all cases hv;done);all_goals clear x0_)
 (refine aK ?_ ?_)
 ·rfl
 rfl
end Go.Ab
