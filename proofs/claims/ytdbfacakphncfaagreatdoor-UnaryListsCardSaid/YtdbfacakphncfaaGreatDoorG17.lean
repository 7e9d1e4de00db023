/- Lemmas. -/
import Derived.Test.YtdbfacakphncfaaGreatDoorG16
import Derived.Test.YtdbfacakphncfaaGreatDoorG04
set_option maxRecDepth 1000000
set_option maxHeartbeats 4000000
set_option linter.unusedSimpArgs false
set_option linter.unusedVariables false
namespace Go.Ab
open Go.Proofs
theorem zIB(v:Val)(e:Int):∃x:Ans,Om CC 135 [.t (.agg [.int .u8 v.k,.int .i64 v.n,.str v.s]),.t (.int .i64 e)] []=some (.val (.t (.agg [.int .u8 x.v.k,.int .i64 x.v.n,.str x.v.s,.int .i64 x.e])),[])∧(VOK v→VOK x.v):=by
 refine zN zWf rfl ?_
 (have F_:=c5 zK zL zI zH (c3 yB xY yBP);show W CC 0 11 (zE 135) _ ⟨[(0,_),(1,_)],[]⟩ _)
 (with_reducible repeat' first|apply aA|refine aB ?_|refine aC ?_|refine aD ?_|(first|apply zB|apply zA|apply zC|apply zD)<;>intro hg<;>try with_unfolding_all cases hg;done|refine aE ?_|refine aF ?_|refine aG ?_|refine aH ?_ ?_<;>intro hv<;>try with_unfolding_all cases hv;done)
 all_goals refine aJ ?_
 all_goals (refine⟨⟨⟨_,_,_⟩,_⟩,⟨rfl,rfl⟩,?_⟩;first|exact fun _=>xE|exact fun h=>h)
noncomputable def Told(v:Val)(e:Int):Ans:=(zIB v e).choose
theorem zEe(v:Val)(e:Int):Om CC 135 [.t (.agg [.int .u8 v.k,.int .i64 v.n,.str v.s]),.t (.int .i64 e)] []=some (.val (.t (.agg [.int .u8 (Told v e).v.k,.int .i64 (Told v e).v.n,.str (Told v e).v.s,.int .i64 (Told v e).e])),[]):=(zIB v e).choose_spec.1
theorem zFH(v:Val)(e:Int):VOK v→VOK (Told v e).v:=(zIB v e).choose_spec.2
theorem zI9(e:Int):∃x:Ans,Om CC 115 [.t (.int .i64 e)] []=some (.val (.t (.agg [.int .u8 x.v.k,.int .i64 x.v.n,.str x.v.s,.int .i64 x.e])),[])∧(VOK x.v):=by
 refine zN zOr rfl ?_
 (have F_:=c5 zK zL zI zH (c3 yB xY zQL);show W CC 0 5 (zE 115) _ ⟨[(0,_)],[]⟩ _)
 (with_reducible repeat' first|apply aA|refine aB ?_|refine aC ?_|refine aD ?_|(first|apply zB|apply zA|apply zC|apply zD)<;>intro hg<;>try with_unfolding_all cases hg;done|refine aE ?_|refine aF ?_|refine aG ?_|refine aH ?_ ?_<;>intro hv<;>try with_unfolding_all cases hv;done)
 all_goals refine aJ ?_
 all_goals (refine⟨⟨⟨_,_,_⟩,_⟩,⟨rfl,rfl⟩,?_⟩;exact xE)
noncomputable def Fail(e:Int):Ans:=(zI9 e).choose
theorem zBl(e:Int):Om CC 115 [.t (.int .i64 e)] []=some (.val (.t (.agg [.int .u8 (Fail e).v.k,.int .i64 (Fail e).v.n,.str (Fail e).v.s,.int .i64 (Fail e).e])),[]):=(zI9 e).choose_spec.1
theorem zDs(e:Int):VOK (Fail e).v:=(zI9 e).choose_spec.2
theorem zRR(e:Int):Om CC 115 [.t (.int .i64 e)] []=some (.val (.t (.agg [.int .u8 0,.int .i64 0,.str [],.int .i64 e])),[]):=by
 refine zV zOr rfl ?_
 (have F_:=c5 zK zL zI zH (c3 yB xY zQL);show W CC 0 5 (zE 115) _ ⟨[(0,_)],[]⟩ _)
 (with_reducible repeat' first|apply aA|refine aB ?_|refine aC ?_|refine aD ?_|(first|apply zB|apply zA|apply zC|apply zD)<;>intro hg<;>try with_unfolding_all cases hg;done|refine aE ?_|refine aF ?_|refine aG ?_|refine aH ?_ ?_<;>intro hv<;>try with_unfolding_all cases hv;done)
 all_goals refine aK ?_ ?_
 all_goals first|rfl
theorem zVs(e:Int):Fail e=⟨VZ,e⟩:=by
 have h:=(zBl e).symm.trans (zRR e);generalize Fail e=x at h;obtain⟨⟨k,n,s⟩,e'⟩:=x;cases h
 rfl
theorem zR6(e:Int)(h:e≠0):TB (Fail e):=by rw[zVs];exact⟨jV,.inl h⟩
theorem zNU(b:Bool):Om CC 87 [.t (.bool b)] []=some (.val (.t (.agg [.int .u8 4,.int .i64 (match b with|true=>1|false=>0),.str []])),[]):=by
 cases b with
 |true =>
  refine zV zNm rfl ?_
  (have F_:=c5 zK zR zL zI (c2 zH zPK);show W CC 0 6 (zE 87) _ ⟨[(0,_)],[]⟩ _)
  (with_reducible repeat' first|apply aA|refine aB ?_|refine aC ?_|refine aD ?_|(first|apply zB|apply zA|apply zC|apply zD)<;>intro hg<;>try with_unfolding_all cases hg;done|refine aE ?_|refine aF ?_|refine aG ?_|refine aH ?_ ?_<;>intro hv<;>try with_unfolding_all cases hv;done)
  all_goals refine aK ?_ ?_
  all_goals first|rfl
 |false =>
  refine zV zNm rfl ?_
  (have F_:=c5 zK zR zL zI (c2 zH zPK);show W CC 0 6 (zE 87) _ ⟨[(0,_)],[]⟩ _)
  (with_reducible repeat' first|apply aA|refine aB ?_|refine aC ?_|refine aD ?_|(first|apply zB|apply zA|apply zC|apply zD)<;>intro hg<;>try with_unfolding_all cases hg;done|refine aE ?_|refine aF ?_|refine aG ?_|refine aH ?_ ?_<;>intro hv<;>try with_unfolding_all cases hv;done)
  all_goals refine aK ?_ ?_
  all_goals first|rfl
theorem zGK(b:Bool):qC b=⟨4,(match b with|true=>1|false=>0),[]⟩:=by
 have h:=(qZ b).symm.trans (zNU b);generalize qC b=x at h;obtain⟨k,n,s⟩:=x;cases b<;>(cases h;rfl)
theorem zI8(b:Bool):TB ⟨qC b,0⟩:=by
 rw[zGK];cases b
 ·exact⟨zNa,.inr (.inr (.inl rfl))⟩
 exact⟨zKv,.inr (.inl rfl)⟩
theorem zIF(v:Val):∃x:Ans,Om CC 114 [.t (.agg [.int .u8 v.k,.int .i64 v.n,.str v.s])] []=some (.val (.t (.agg [.int .u8 x.v.k,.int .i64 x.v.n,.str x.v.s,.int .i64 x.e])),[])∧(VOK v→VOK x.v):=by
 refine zN zWq rfl ?_
 (have F_:=c5 zK zR zL zI (c5 zH yB xY yB3 (c3 zRF zDD (c2 @zO0 @zBl)));show W CC 0 9 (zE 114) _ ⟨[(0,_)],[]⟩ _)
 (with_reducible repeat' first|apply aA|refine aB ?_|refine aC ?_|refine aD ?_|(first|apply zB|apply zA|apply zC|apply zD)<;>intro hg<;>try with_unfolding_all cases hg;done|refine aE ?_|refine aF ?_|refine aG ?_|refine aH ?_ ?_<;>intro hv<;>try with_unfolding_all cases hv;done)
 all_goals refine aJ ?_
 all_goals (refine⟨⟨⟨_,_,_⟩,_⟩,⟨rfl,rfl⟩,?_⟩;first|exact fun _=>zDs _|exact fun h=>h)
noncomputable def Held(v:Val):Ans:=(zIF v).choose
theorem zVg(v:Val):Om CC 114 [.t (.agg [.int .u8 v.k,.int .i64 v.n,.str v.s])] []=some (.val (.t (.agg [.int .u8 (Held v).v.k,.int .i64 (Held v).v.n,.str (Held v).v.s,.int .i64 (Held v).e])),[]):=(zIF v).choose_spec.1
theorem zMH(v:Val):VOK v→VOK (Held v).v:=(zIF v).choose_spec.2
def AOK(a:Ans):Prop:=VOK a.v
theorem zBd{kl:List Ans}(h:∀a ∈ kl,AOK a)(i:Nat):VOK (getA kl i).v:=by
 unfold getA;rw[List.getD_eq_getElem?_getD];cases hi:kl[i]? with
 |none=>exact xE
 |some a=>exact h a (List.mem_of_getElem? hi)
theorem zCY(nl cl nl2 cl2:Bool)(kl:List Ans)(ns:List (List Tree))(i:Nat):Om CC 164 [.t (.agg [.sl nl cl (kl.map Ans.c),.sl nl2 cl2 ns]),.t (.int .i64 (i:Int))] []=some (.val (.t (.agg [.int .u8 (getA kl i).v.k,.int .i64 (getA kl i).v.n,.str (getA kl i).v.s,.int .i64 (getA kl i).e])),[]):=by
 refine zV zUT rfl ?_
 (have F_:=c5 zK zO zR zL (c5 zI zH yB kY (c3 xY kV (c2 jB zYB)));show W CC 0 16 (zE 164) _ ⟨[(0,_),(1,_)],[]⟩ _)
 by_cases hi:i<kl.length
 ·have hd:decide ((i:Int) ≥ kl.length)=false:=by simp;omega
  have he:kl[i]?=some kl[i]:=List.getElem?_eq_getElem hi;have hg:getA kl i=kl[i]:=by unfold getA;rw[List.getD_eq_getElem?_getD,he];rfl
  rw[hg];generalize kl[i]=a at he
  (have x0_:=@Ans.c.eq_1;(with_reducible repeat' first|apply aA|refine aB ?_|refine aC ?_|refine aD ?_|(first|apply zB|apply zA|apply zC|apply zD)<;>intro hg<;>try with_unfolding_all cases hg;done|refine aE ?_|refine aF ?_|refine aG ?_|refine aH ?_ ?_<;>intro hv<;>try with_unfolding_all cases hv;done);all_goals clear x0_)
  (refine aK ?_ ?_)
  ·rfl
  rfl
 have hd:decide ((i:Int) ≥ kl.length)=true:=by simp;omega
 have hg:getA kl i=AZero:=by unfold getA;rw[List.getD_eq_getElem?_getD,List.getElem?_eq_none (by omega)];rfl
 rw[hg]
 (have x0_:=@Ans.c.eq_1;(with_reducible repeat' first|apply aA|refine aB ?_|refine aC ?_|refine aD ?_|(first|apply zB|apply zA|apply zC|apply zD)<;>intro hg<;>try with_unfolding_all cases hg;done|refine aE ?_|refine aF ?_|refine aG ?_|refine aH ?_ ?_<;>intro hv<;>try with_unfolding_all cases hv;done);all_goals clear x0_)
 (refine aK ?_ ?_)
 ·rfl
 rfl
theorem zEY(nl cl nl2 cl2:Bool)(kl:List Ans)(ns:List (List Tree))(i:Nat)(hk:∀a ∈ kl,AOK a):∃x:Ans,Om CC 117 [.t (.agg [.sl nl cl (kl.map Ans.c),.sl nl2 cl2 ns]),.t (.int .i64 (i:Int))] []=some (.val (.t (.agg [.int .u8 x.v.k,.int .i64 x.v.n,.str x.v.s,.int .i64 x.e])),[])∧VOK x.v:=by
 refine zN zWk rfl ?_
 (have F_:=c5 zK zO zR zL (c5 zI zH yB kY (c5 xY kV jB yAy (c3 zFM zDD @zBl)));show W CC 0 26 (zE 117) _ ⟨[(0,_),(1,_)],[]⟩ _)
 have hg:=zCY nl cl nl2 cl2 kl ns i;have hp:=zBd hk i;clear hk
 (with_reducible repeat' first|apply aA|refine aB ?_|refine aC ?_|refine aD ?_|(first|apply zB|apply zA|apply zC|apply zD)<;>intro hg<;>try with_unfolding_all cases hg;done|refine aE ?_|refine aF ?_|refine aG ?_|refine aH ?_ ?_<;>intro hv<;>try with_unfolding_all cases hv;done)
 all_goals refine aJ ?_
 all_goals first|exact⟨getA kl i,⟨rfl,rfl⟩,hp⟩|exact⟨Fail 8,⟨rfl,rfl⟩,zDs _⟩
theorem zGi(l:List Val)(nl cl:Bool)(hl:l.length<9223372036854775808):∃x:Bool,Om CC 168 [.t (.sl nl cl (l.map Val.c))] []=some (.val (.t (.bool x)),[])∧True:=by
 refine zN zW0 rfl ?_
 (have F_:=c5 zK zO zL zI (c3 zH wP yBg);show W CC 0 15 (zE 168) _ ⟨[(0,_)],[]⟩ _)
 (with_reducible repeat' first|apply aA|refine aB ?_|refine aC ?_|refine aD ?_|(first|apply zB|apply zA|apply zC|apply zD)<;>intro hg<;>try with_unfolding_all cases hg;done|refine aE ?_|refine aF ?_|refine aG ?_|refine aH ?_ ?_<;>intro hv<;>try with_unfolding_all cases hv;done)
 refine yS (α:=Nat) (fun i=>⟨[(5,.t (.sl nl cl (l.map Val.c))),(6,.t (.int .i64 l.length)),(7,.t (.int .i64 i))],[]⟩) (fun i=>l.length - i) (fun i=>i≤l.length) 0 (by kernel_rfl) (Nat.zero_le _) ?_;intro i hi
 by_cases hi':i<l.length
 ·have hw:IntKind.i64.wrap ((i:Int)+1)=((i+1:Nat):Int):=by rw[wrap64]<;>omega
  have he:l[i]?=some l[i]:=List.getElem?_eq_getElem hi';have hd:decide ((i:Int)<l.length)=true:=by simpa using hi'
  generalize l[i]=v at he
  (with_reducible repeat' first|apply aA|refine aB ?_|refine aC ?_|refine aD ?_|(first|apply zB|apply zA|apply zC|apply zD)<;>intro hg<;>try with_unfolding_all cases hg;done|refine aE ?_|refine aF ?_|refine aG ?_|refine aH ?_ ?_<;>intro hv<;>try with_unfolding_all cases hv;done)
  all_goals first
   |((refine aJ ?_);exact⟨_,⟨rfl,rfl⟩,trivial⟩)
   |exact zM (i+1) (by omega) (by omega) (by kernel_rfl)
 have hd:decide ((i:Int)<l.length)=false:=by simpa using hi'
 (with_reducible repeat' first|apply aA|refine aB ?_|refine aC ?_|refine aD ?_|(first|apply zB|apply zA|apply zC|apply zD)<;>intro hg<;>try with_unfolding_all cases hg;done|refine aE ?_|refine aF ?_|refine aG ?_|refine aH ?_ ?_<;>intro hv<;>try with_unfolding_all cases hv;done)
 (refine aJ ?_)
 exact⟨_,⟨rfl,rfl⟩,trivial⟩
theorem zGv(a b:Int)(l:List Val)(nl cl:Bool)(hl:l.length<9223372036854775808):∃x:Bool,Om CC 170 [.t (.int .u8 a),.t (.int .u8 b),.t (.sl nl cl (l.map Val.c))] []=some (.val (.t (.bool x)),[])∧True:=by
 refine zN zWK rfl ?_
 (have F_:=c5 zK zO zL zI (c3 zH wP yB8);show W CC 0 31 (zE 170) _ ⟨[(0,_),(1,_),(2,_)],[]⟩ _)
 (with_reducible repeat' first|apply aA|refine aB ?_|refine aC ?_|refine aD ?_|(first|apply zB|apply zA|apply zC|apply zD)<;>intro hg<;>try with_unfolding_all cases hg;done|refine aE ?_|refine aF ?_|refine aG ?_|refine aH ?_ ?_<;>intro hv<;>try with_unfolding_all cases hv;done)
 refine yS (α:=Nat) (fun i=>⟨[(0,.t (.int .u8 a)),(1,.t (.int .u8 b)),(9,.t (.sl nl cl (l.map Val.c))),(10,.t (.int .i64 l.length)),(11,.t (.int .i64 i))],[]⟩) (fun i=>l.length - i) (fun i=>i≤l.length) 0 (by kernel_rfl) (Nat.zero_le _) ?_;intro i hi
 by_cases hi':i<l.length
 ·have hw:IntKind.i64.wrap ((i:Int)+1)=((i+1:Nat):Int):=by rw[wrap64]<;>omega
  have he:l[i]?=some l[i]:=List.getElem?_eq_getElem hi';have hd:decide ((i:Int)<l.length)=true:=by simpa using hi'
  generalize l[i]=v at he
  (with_reducible repeat' first|apply aA|refine aB ?_|refine aC ?_|refine aD ?_|(first|apply zB|apply zA|apply zC|apply zD)<;>intro hg<;>try with_unfolding_all cases hg;done|refine aE ?_|refine aF ?_|refine aG ?_|refine aH ?_ ?_<;>intro hv<;>try with_unfolding_all cases hv;done)
  all_goals first
   |((refine aJ ?_);exact⟨_,⟨rfl,rfl⟩,trivial⟩)
   |exact zM (i+1) (by omega) (by omega) (by kernel_rfl)
 have hd:decide ((i:Int)<l.length)=false:=by simpa using hi'
 (with_reducible repeat' first|apply aA|refine aB ?_|refine aC ?_|refine aD ?_|(first|apply zB|apply zA|apply zC|apply zD)<;>intro hg<;>try with_unfolding_all cases hg;done|refine aE ?_|refine aF ?_|refine aG ?_|refine aH ?_ ?_<;>intro hv<;>try with_unfolding_all cases hv;done)
 (refine aJ ?_)
 exact⟨_,⟨rfl,rfl⟩,trivial⟩
theorem zPg(nl cl nl2 cl2:Bool)(kl:List Ans)(ns:List (List Tree))(hk:∀a ∈ kl,AOK a):∃x:Ans,Om CC 146 [.t (.agg [.sl nl cl (kl.map Ans.c),.sl nl2 cl2 ns])] []=some (.val (.t (.agg [.int .u8 x.v.k,.int .i64 x.v.n,.str x.v.s,.int .i64 x.e])),[])∧VOK x.v:=by
 refine zN zWd rfl ?_
 (have F_:=c5 zK zO zR zL (c5 zI zH yB kY (c5 xY kV jB yAt (c2 zFM zMI)));show W CC 0 26 (zE 146) _ ⟨[(0,_)],[]⟩ _)
 obtain⟨t,ht,htp⟩:=zEY nl cl nl2 cl2 kl ns 0 hk;have g1:=zCY nl cl nl2 cl2 kl ns 1;have g2:=zCY nl cl nl2 cl2 kl ns 2;have p1:=zBd hk 1;have p2:=zBd hk 2;clear hk;simp only[Int.cast_ofNat_Int] at ht g1 g2;have ht:Om CC 117 [.t (.agg [.sl nl cl (kl.map Ans.c),.sl nl2 cl2 ns]),.t (.int .i64 0)] []=_:=ht;have g1:Om CC 164 [.t (.agg [.sl nl cl (kl.map Ans.c),.sl nl2 cl2 ns]),.t (.int .i64 1)] []=_:=g1;have g2:Om CC 164 [.t (.agg [.sl nl cl (kl.map Ans.c),.sl nl2 cl2 ns]),.t (.int .i64 2)] []=_:=g2
 (with_reducible repeat' first|apply aA|refine aB ?_|refine aC ?_|refine aD ?_|(first|apply zB|apply zA|apply zC|apply zD)<;>intro hg<;>try with_unfolding_all cases hg;done|refine aE ?_|refine aF ?_|refine aG ?_|refine aH ?_ ?_<;>intro hv<;>try with_unfolding_all cases hv;done)
 all_goals refine aJ ?_
 all_goals first|exact⟨t,⟨rfl,rfl⟩,htp⟩|exact⟨getA kl 1,⟨rfl,rfl⟩,p1⟩|exact⟨getA kl 2,⟨rfl,rfl⟩,p2⟩
theorem zEI (f:Nat) (hb:zF Tryz.prog f=true) (hbp:∀x,CC.prim f x=none) (nl cl nl2 cl2:Bool) (kl:List Ans) (ns:List (List Tree)) (n:Nat) (hn:n<4294967295) (hk:∀a ∈ kl,AOK a)
  (hdo:∀(l:List Val) (x y:Bool),l.length=n→(∀v ∈ l,VOK v)→∃a:Ans,Om CC f [.t (.sl x y (l.map Val.c))] []=some (.val (.t (.agg [.int .u8 a.v.k,.int .i64 a.v.n,.str a.v.s,.int .i64 a.e])),[])∧AOK a) :
  ∃x:Ans,Om CC 133 [.t (.agg [.sl nl cl (kl.map Ans.c),.sl nl2 cl2 ns]),.t (.int .i64 (n:Int)),.t (.fn f)] []=some (.val (.t (.agg [.int .u8 x.v.k,.int .i64 x.v.n,.str x.v.s,.int .i64 x.e])),[])∧AOK x:=by
 refine jS zH4 rfl ?_
 (have F_:=c5 zK zO zR zL (c5 zI zH yB kY (c5 xY kV jB wP (c3 zAU zJj zFM)));show W CC 0 30 (zE 133) _ ⟨[(0,_),(1,_),(2,_)],[]⟩ _)
 (with_reducible repeat' first|apply aA|refine aB ?_|refine aC ?_|refine aD ?_|(first|apply zB|apply zA|apply zC|apply zD)<;>intro hg<;>try with_unfolding_all cases hg;done|refine aE ?_|refine aF ?_|refine aG ?_|refine aH ?_ ?_<;>intro hv<;>try with_unfolding_all cases hv;done)
 refine yS (α:=Nat×Bool×List Val) (fun a=>⟨[(2,.t (.fn f)),(3,.box 0 0),(6,.box 1 0),(7,match a.2.1 with|true=>.hs 2 0|false=>.t (.sl true true [])),(10,.t (.int .i64 (n:Int))),(11,.t (.int .i64 a.1))],
   match a.2.1 with|true=>[.box [.t (.sl nl cl (kl.map Ans.c)),.t (.sl nl2 cl2 ns)],.box (AZero.c.map .t),.arr 3 0 false (a.2.2.map Val.c)]|false=>[.box [.t (.sl nl cl (kl.map Ans.c)),.t (.sl nl2 cl2 ns)],.box (AZero.c.map .t)]⟩)
  (fun a=>n - a.1) (fun a=>a.1≤n∧a.2.2.length=a.1∧(a.2.1=false→a.2.2=[])∧∀v ∈ a.2.2,VOK v) (0,false,[]) (by kernel_rfl) ⟨Nat.zero_le _,rfl,fun _=>rfl,fun v hv=>(by cases hv)⟩ ?_
 rintro⟨i,st,out⟩ ⟨hi,ho,hno,hor⟩
 try dsimp only at hi ho hno hor
 have hle:lens 3 (out.map Val.c)=true:=kU Val.c 3 (fun a=>rfl) out;simp only[AZero,Ans.c,List.map_cons,List.map_nil]
 by_cases hi':i<n
 ·have hw:IntKind.i64.wrap ((i:Int)+1)=((i+1:Nat):Int):=by rw[wrap64]<;>omega
  have hd:decide ((i:Int)<(n:Int))=true:=by simpa using hi'
  have hsm:decide (i+1<4294967296)=true:=by simp;omega
  have hg:=zCY nl cl nl2 cl2 kl ns i;have hp:=zBd hk i;generalize getA kl i=g at hg hp;clear hk hdo;cases st with
  |true =>
   clear hno
   (with_reducible repeat' first|apply aA|refine aB ?_|refine aC ?_|refine aD ?_|(first|apply zB|apply zA|apply zC|apply zD)<;>intro hg<;>try with_unfolding_all cases hg;done|refine aE ?_|refine aF ?_|refine aG ?_|refine aH ?_ ?_<;>intro hv<;>try with_unfolding_all cases hv;done)
   ·(refine aJ ?_)
    exact⟨g,⟨rfl,rfl⟩,hp⟩
   refine zM (i+1,true,out++[g.v]) (by first|omega|(dsimp only;omega)) ⟨by first|omega|(dsimp only;omega),by simp [ho],fun h=>(by cases h),fun x hx=>?_⟩ (by(simp only[yD,zU,F_,tidy,xJ,canon,reach,yK,refs,xH,catMap,depth,renL,ren,renO,sub,sub1,upto,mem,place,fresh,cond_true,Ab.get,nth,List.map,List.zip_cons_cons,List.zip_nil_right,List.take,List.append_nil,List.nil_append,List.cons_append,Bool.and_true,yM,decide_true,decide_false,Nat.reduceEqDiff,Val.c,List.map_append]<;>exact rfl));rcases List.mem_append.1 hx with h|h
   ·exact hor x h
   rw[List.mem_singleton.1 h];exact hp
  |false =>
   have h0:=hno rfl;subst h0;simp at ho;subst ho;clear hno hor
   (with_reducible repeat' first|apply aA|refine aB ?_|refine aC ?_|refine aD ?_|(first|apply zB|apply zA|apply zC|apply zD)<;>intro hg<;>try with_unfolding_all cases hg;done|refine aE ?_|refine aF ?_|refine aG ?_|refine aH ?_ ?_<;>intro hv<;>try with_unfolding_all cases hv;done)
   ·(refine aJ ?_)
    exact⟨g,⟨rfl,rfl⟩,hp⟩
   refine zM (1,true,[g.v]) (by first|omega|(dsimp only;omega)) ⟨by first|omega|(dsimp only;omega),by simp,fun h=>(by cases h),fun x hx=>?_⟩ (by(simp only[yD,zU,F_,tidy,xJ,canon,reach,yK,refs,xH,catMap,depth,renL,ren,renO,sub,sub1,upto,mem,place,fresh,cond_true,Ab.get,nth,List.map,List.zip_cons_cons,List.zip_nil_right,List.take,List.append_nil,List.nil_append,List.cons_append,Bool.and_true,yM,decide_true,decide_false,Nat.reduceEqDiff,Val.c]<;>exact rfl));rw[List.mem_singleton.1 hx];exact hp
 have hd:decide ((i:Int)<(n:Int))=false:=by simpa using hi'
 cases st with
 |true =>
  obtain⟨a,ha,hap⟩:=hdo out false false (by omega) hor;clear hdo hor hk hno
  (with_reducible repeat' first|apply aA|refine aB ?_|refine aC ?_|refine aD ?_|(first|apply zB|apply zA|apply zC|apply zD)<;>intro hg<;>try with_unfolding_all cases hg;done|refine aE ?_|refine aF ?_|refine aG ?_|refine aH ?_ ?_<;>intro hv<;>try with_unfolding_all cases hv;done)
  (refine aJ ?_)
  exact⟨a,⟨rfl,rfl⟩,hap⟩
 |false =>
  have h0:=hno rfl;subst h0;obtain⟨a,ha,hap⟩:=hdo [] true true (by omega) (fun v hv=>(by cases hv));simp only[List.map_nil] at ha;clear hdo hor hk hno
  (with_reducible repeat' first|apply aA|refine aB ?_|refine aC ?_|refine aD ?_|(first|apply zB|apply zA|apply zC|apply zD)<;>intro hg<;>try with_unfolding_all cases hg;done|refine aE ?_|refine aF ?_|refine aG ?_|refine aH ?_ ?_<;>intro hv<;>try with_unfolding_all cases hv;done)
  (refine aJ ?_)
  exact⟨a,⟨rfl,rfl⟩,hap⟩
theorem zLr (P:Ans→Prop) (hP:∀a,AOK a→a.e≠0→P a) (f:Nat) (hb:zF Tryz.prog f=true) (hbp:∀x,CC.prim f x=none) (w00:Tree) (nl cl nl2 cl2:Bool) (kl:List Ans) (ns:List (List Tree)) (n:Nat) (hn:n<4294967295) (hk:∀a ∈ kl,AOK a)
  (hdo:∀(l:List Val) (x y:Bool),l.length=n→(∀v ∈ l,VOK v)→∃a:Ans,Om CC f [.t (.sl x y (l.map Val.c)),.box 0 0] [.box [.t w00]]=some (.val (.t (.agg [.int .u8 a.v.k,.int .i64 a.v.n,.str a.v.s,.int .i64 a.e])),[.box [.t w00]])∧P a) :
  ∃x:Ans,Om CC 133 [.t (.agg [.sl nl cl (kl.map Ans.c),.sl nl2 cl2 ns]),.t (.int .i64 (n:Int)),.fn f [] [.box 0 0]] [.box [.t w00]]=some (.val (.t (.agg [.int .u8 x.v.k,.int .i64 x.v.n,.str x.v.s,.int .i64 x.e])),[.box [.t w00]])∧P x:=by
 refine jS zH4 rfl ?_
 (have F_:=c5 zK zO zR zL (c5 zI zH yB kY (c5 xY kV jB wP (c3 zAU zJj zFM)));show W CC 1 30 (zE 133) _ ⟨[(0,_),(1,_),(2,_)],[_]⟩ _)
 (with_reducible repeat' first|apply aA|refine aB ?_|refine aC ?_|refine aD ?_|(first|apply zB|apply zA|apply zC|apply zD)<;>intro hg<;>try with_unfolding_all cases hg;done|refine aE ?_|refine aF ?_|refine aG ?_|refine aH ?_ ?_<;>intro hv<;>try with_unfolding_all cases hv;done)
 refine yS (α:=Nat×Bool×List Val) (fun a=>⟨[(2,.fn f [] [.box 0 0]),(3,.box 1 0),(6,.box 2 0),(7,match a.2.1 with|true=>.hs 3 0|false=>.t (.sl true true [])),(10,.t (.int .i64 (n:Int))),(11,.t (.int .i64 a.1))],
   match a.2.1 with|true=>[.box [.t w00],.box [.t (.sl nl cl (kl.map Ans.c)),.t (.sl nl2 cl2 ns)],.box (AZero.c.map .t),.arr 3 0 false (a.2.2.map Val.c)]|false=>[.box [.t w00],.box [.t (.sl nl cl (kl.map Ans.c)),.t (.sl nl2 cl2 ns)],.box (AZero.c.map .t)]⟩)
  (fun a=>n - a.1) (fun a=>a.1≤n∧a.2.2.length=a.1∧(a.2.1=false→a.2.2=[])∧∀v ∈ a.2.2,VOK v) (0,false,[]) (by kernel_rfl) ⟨Nat.zero_le _,rfl,fun _=>rfl,fun v hv=>(by cases hv)⟩ ?_
 rintro⟨i,st,out⟩ ⟨hi,ho,hno,hor⟩
 try dsimp only at hi ho hno hor
 have hle:lens 3 (out.map Val.c)=true:=kU Val.c 3 (fun a=>rfl) out;simp only[AZero,Ans.c,List.map_cons,List.map_nil]
 by_cases hi':i<n
 ·have hw:IntKind.i64.wrap ((i:Int)+1)=((i+1:Nat):Int):=by rw[wrap64]<;>omega
  have hd:decide ((i:Int)<(n:Int))=true:=by simpa using hi'
  have hsm:decide (i+1<4294967296)=true:=by simp;omega
  have hg:=zCY nl cl nl2 cl2 kl ns i;have hp:=zBd hk i;generalize getA kl i=g at hg hp;clear hk hdo;cases st with
  |true =>
   clear hno
   (with_reducible repeat' first|apply aA|refine aB ?_|refine aC ?_|refine aD ?_|(first|apply zB|apply zA|apply zC|apply zD)<;>intro hg<;>try with_unfolding_all cases hg;done|refine aE ?_|refine aF ?_|refine aG ?_|refine aH ?_ ?_<;>intro hv<;>try with_unfolding_all cases hv;done)
   ·(refine aJ ?_)
    exact⟨g,⟨rfl,rfl⟩,hP g hp (by clear F_ hP;intro h0;simp_all)⟩
   refine zM (i+1,true,out++[g.v]) (by first|omega|(dsimp only;omega)) ⟨by first|omega|(dsimp only;omega),by simp [ho],fun h=>(by cases h),fun x hx=>?_⟩ (by(simp only[yD,zU,F_,tidy,xJ,canon,reach,yK,refs,xH,catMap,depth,renL,ren,renO,sub,sub1,upto,mem,place,fresh,cond_true,Ab.get,nth,List.map,List.zip_cons_cons,List.zip_nil_right,List.take,List.append_nil,List.nil_append,List.cons_append,Bool.and_true,yM,decide_true,decide_false,Nat.reduceEqDiff,Val.c,List.map_append]<;>exact rfl));rcases List.mem_append.1 hx with h|h
   ·exact hor x h
   rw[List.mem_singleton.1 h];exact hp
  |false =>
   have h0:=hno rfl;subst h0;simp at ho;subst ho;clear hno hor
   (with_reducible repeat' first|apply aA|refine aB ?_|refine aC ?_|refine aD ?_|(first|apply zB|apply zA|apply zC|apply zD)<;>intro hg<;>try with_unfolding_all cases hg;done|refine aE ?_|refine aF ?_|refine aG ?_|refine aH ?_ ?_<;>intro hv<;>try with_unfolding_all cases hv;done)
   ·(refine aJ ?_)
    exact⟨g,⟨rfl,rfl⟩,hP g hp (by clear F_ hP;intro h0;simp_all)⟩
   refine zM (1,true,[g.v]) (by first|omega|(dsimp only;omega)) ⟨by first|omega|(dsimp only;omega),by simp,fun h=>(by cases h),fun x hx=>?_⟩ (by(simp only[yD,zU,F_,tidy,xJ,canon,reach,yK,refs,xH,catMap,depth,renL,ren,renO,sub,sub1,upto,mem,place,fresh,cond_true,Ab.get,nth,List.map,List.zip_cons_cons,List.zip_nil_right,List.take,List.append_nil,List.nil_append,List.cons_append,Bool.and_true,yM,decide_true,decide_false,Nat.reduceEqDiff,Val.c]<;>exact rfl));rw[List.mem_singleton.1 hx];exact hp
 have hd:decide ((i:Int)<(n:Int))=false:=by simpa using hi'
 cases st with
 |true =>
  obtain⟨a,ha,hap⟩:=hdo out false false (by omega) hor;clear hdo hor hk hno
  (with_reducible repeat' first|apply aA|refine aB ?_|refine aC ?_|refine aD ?_|(first|apply zB|apply zA|apply zC|apply zD)<;>intro hg<;>try with_unfolding_all cases hg;done|refine aE ?_|refine aF ?_|refine aG ?_|refine aH ?_ ?_<;>intro hv<;>try with_unfolding_all cases hv;done)
  (refine aJ ?_)
  exact⟨a,⟨rfl,rfl⟩,hap⟩
 |false =>
  have h0:=hno rfl;subst h0;obtain⟨a,ha,hap⟩:=hdo [] true true (by omega) (fun v hv=>(by cases hv));simp only[List.map_nil] at ha;clear hdo hor hk hno
  (with_reducible repeat' first|apply aA|refine aB ?_|refine aC ?_|refine aD ?_|(first|apply zB|apply zA|apply zC|apply zD)<;>intro hg<;>try with_unfolding_all cases hg;done|refine aE ?_|refine aF ?_|refine aG ?_|refine aH ?_ ?_<;>intro hv<;>try with_unfolding_all cases hv;done)
  (refine aJ ?_)
  exact⟨a,⟨rfl,rfl⟩,hap⟩
theorem zQk (f:Nat) (hb:zF Tryz.prog f=true) (hbp:∀x,CC.prim f x=none) (w00 w10:Tree) (nl cl nl2 cl2:Bool) (kl:List Ans) (ns:List (List Tree)) (n:Nat) (hn:n<4294967295) (hk:∀a ∈ kl,AOK a)
  (hdo:∀(l:List Val) (x y:Bool),l.length=n→(∀v ∈ l,VOK v)→∃a:Ans,Om CC f [.t (.sl x y (l.map Val.c)),.box 0 0,.box 1 0] [.box [.t w00],.box [.t w10]]=some (.val (.t (.agg [.int .u8 a.v.k,.int .i64 a.v.n,.str a.v.s,.int .i64 a.e])),[.box [.t w00],.box [.t w10]])∧AOK a) :
  ∃x:Ans,Om CC 133 [.t (.agg [.sl nl cl (kl.map Ans.c),.sl nl2 cl2 ns]),.t (.int .i64 (n:Int)),.fn f [] [.box 0 0,.box 1 0]] [.box [.t w00],.box [.t w10]]=some (.val (.t (.agg [.int .u8 x.v.k,.int .i64 x.v.n,.str x.v.s,.int .i64 x.e])),[.box [.t w00],.box [.t w10]])∧AOK x:=by
 refine jS zH4 rfl ?_
 (have F_:=c5 zK zO zR zL (c5 zI zH yB kY (c5 xY kV jB wP (c3 zAU zJj zFM)));show W CC 2 30 (zE 133) _ ⟨[(0,_),(1,_),(2,_)],[_,_]⟩ _)
 (with_reducible repeat' first|apply aA|refine aB ?_|refine aC ?_|refine aD ?_|(first|apply zB|apply zA|apply zC|apply zD)<;>intro hg<;>try with_unfolding_all cases hg;done|refine aE ?_|refine aF ?_|refine aG ?_|refine aH ?_ ?_<;>intro hv<;>try with_unfolding_all cases hv;done)
 refine yS (α:=Nat×Bool×List Val) (fun a=>⟨[(2,.fn f [] [.box 0 0,.box 1 0]),(3,.box 2 0),(6,.box 3 0),(7,match a.2.1 with|true=>.hs 4 0|false=>.t (.sl true true [])),(10,.t (.int .i64 (n:Int))),(11,.t (.int .i64 a.1))],
   match a.2.1 with|true=>[.box [.t w00],.box [.t w10],.box [.t (.sl nl cl (kl.map Ans.c)),.t (.sl nl2 cl2 ns)],.box (AZero.c.map .t),.arr 3 0 false (a.2.2.map Val.c)]|false=>[.box [.t w00],.box [.t w10],.box [.t (.sl nl cl (kl.map Ans.c)),.t (.sl nl2 cl2 ns)],.box (AZero.c.map .t)]⟩)
  (fun a=>n - a.1) (fun a=>a.1≤n∧a.2.2.length=a.1∧(a.2.1=false→a.2.2=[])∧∀v ∈ a.2.2,VOK v) (0,false,[]) (by kernel_rfl) ⟨Nat.zero_le _,rfl,fun _=>rfl,fun v hv=>(by cases hv)⟩ ?_
 rintro⟨i,st,out⟩ ⟨hi,ho,hno,hor⟩
 try dsimp only at hi ho hno hor
 have hle:lens 3 (out.map Val.c)=true:=kU Val.c 3 (fun a=>rfl) out;simp only[AZero,Ans.c,List.map_cons,List.map_nil]
 by_cases hi':i<n
 ·have hw:IntKind.i64.wrap ((i:Int)+1)=((i+1:Nat):Int):=by rw[wrap64]<;>omega
  have hd:decide ((i:Int)<(n:Int))=true:=by simpa using hi'
  have hsm:decide (i+1<4294967296)=true:=by simp;omega
  have hg:=zCY nl cl nl2 cl2 kl ns i;have hp:=zBd hk i;generalize getA kl i=g at hg hp;clear hk hdo;cases st with
  |true =>
   clear hno
   (with_reducible repeat' first|apply aA|refine aB ?_|refine aC ?_|refine aD ?_|(first|apply zB|apply zA|apply zC|apply zD)<;>intro hg<;>try with_unfolding_all cases hg;done|refine aE ?_|refine aF ?_|refine aG ?_|refine aH ?_ ?_<;>intro hv<;>try with_unfolding_all cases hv;done)
   ·(refine aJ ?_)
    exact⟨g,⟨rfl,rfl⟩,hp⟩
   refine zM (i+1,true,out++[g.v]) (by first|omega|(dsimp only;omega)) ⟨by first|omega|(dsimp only;omega),by simp [ho],fun h=>(by cases h),fun x hx=>?_⟩ (by(simp only[yD,zU,F_,tidy,xJ,canon,reach,yK,refs,xH,catMap,depth,renL,ren,renO,sub,sub1,upto,mem,place,fresh,cond_true,Ab.get,nth,List.map,List.zip_cons_cons,List.zip_nil_right,List.take,List.append_nil,List.nil_append,List.cons_append,Bool.and_true,yM,decide_true,decide_false,Nat.reduceEqDiff,Val.c,List.map_append]<;>exact rfl));rcases List.mem_append.1 hx with h|h
   ·exact hor x h
   rw[List.mem_singleton.1 h];exact hp
  |false =>
   have h0:=hno rfl;subst h0;simp at ho;subst ho;clear hno hor
   (with_reducible repeat' first|apply aA|refine aB ?_|refine aC ?_|refine aD ?_|(first|apply zB|apply zA|apply zC|apply zD)<;>intro hg<;>try with_unfolding_all cases hg;done|refine aE ?_|refine aF ?_|refine aG ?_|refine aH ?_ ?_<;>intro hv<;>try with_unfolding_all cases hv;done)
   ·(refine aJ ?_)
    exact⟨g,⟨rfl,rfl⟩,hp⟩
   refine zM (1,true,[g.v]) (by first|omega|(dsimp only;omega)) ⟨by first|omega|(dsimp only;omega),by simp,fun h=>(by cases h),fun x hx=>?_⟩ (by(simp only[yD,zU,F_,tidy,xJ,canon,reach,yK,refs,xH,catMap,depth,renL,ren,renO,sub,sub1,upto,mem,place,fresh,cond_true,Ab.get,nth,List.map,List.zip_cons_cons,List.zip_nil_right,List.take,List.append_nil,List.nil_append,List.cons_append,Bool.and_true,yM,decide_true,decide_false,Nat.reduceEqDiff,Val.c]<;>exact rfl));rw[List.mem_singleton.1 hx];exact hp
 have hd:decide ((i:Int)<(n:Int))=false:=by simpa using hi'
 cases st with
 |true =>
  obtain⟨a,ha,hap⟩:=hdo out false false (by omega) hor;clear hdo hor hk hno
  (with_reducible repeat' first|apply aA|refine aB ?_|refine aC ?_|refine aD ?_|(first|apply zB|apply zA|apply zC|apply zD)<;>intro hg<;>try with_unfolding_all cases hg;done|refine aE ?_|refine aF ?_|refine aG ?_|refine aH ?_ ?_<;>intro hv<;>try with_unfolding_all cases hv;done)
  (refine aJ ?_)
  exact⟨a,⟨rfl,rfl⟩,hap⟩
 |false =>
  have h0:=hno rfl;subst h0;obtain⟨a,ha,hap⟩:=hdo [] true true (by omega) (fun v hv=>(by cases hv));simp only[List.map_nil] at ha;clear hdo hor hk hno
  (with_reducible repeat' first|apply aA|refine aB ?_|refine aC ?_|refine aD ?_|(first|apply zB|apply zA|apply zC|apply zD)<;>intro hg<;>try with_unfolding_all cases hg;done|refine aE ?_|refine aF ?_|refine aG ?_|refine aH ?_ ?_<;>intro hv<;>try with_unfolding_all cases hv;done)
  (refine aJ ?_)
  exact⟨a,⟨rfl,rfl⟩,hap⟩
theorem zRr (P:Ans→Prop) (hP:∀a,AOK a→a.e≠0→P a) (f:Nat) (hb:zF Tryz.prog f=true) (hbp:∀x,CC.prim f x=none) (w00 w01 w10:Tree) (nl cl nl2 cl2:Bool) (kl:List Ans) (ns:List (List Tree)) (n:Nat) (hn:n<4294967295) (hk:∀a ∈ kl,AOK a)
  (hdo:∀(l:List Val) (x y:Bool),l.length=n→(∀v ∈ l,VOK v)→∃a:Ans,Om CC f [.t (.sl x y (l.map Val.c)),.box 0 0,.box 1 0] [.box [.t w00,.t w01],.box [.t w10]]=some (.val (.t (.agg [.int .u8 a.v.k,.int .i64 a.v.n,.str a.v.s,.int .i64 a.e])),[.box [.t w00,.t w01],.box [.t w10]])∧P a) :
  ∃x:Ans,Om CC 133 [.t (.agg [.sl nl cl (kl.map Ans.c),.sl nl2 cl2 ns]),.t (.int .i64 (n:Int)),.fn f [] [.box 0 0,.box 1 0]] [.box [.t w00,.t w01],.box [.t w10]]=some (.val (.t (.agg [.int .u8 x.v.k,.int .i64 x.v.n,.str x.v.s,.int .i64 x.e])),[.box [.t w00,.t w01],.box [.t w10]])∧P x:=by
 refine jS zH4 rfl ?_
 (have F_:=c5 zK zO zR zL (c5 zI zH yB kY (c5 xY kV jB wP (c3 zAU zJj zFM)));show W CC 2 30 (zE 133) _ ⟨[(0,_),(1,_),(2,_)],[_,_]⟩ _)
 (with_reducible repeat' first|apply aA|refine aB ?_|refine aC ?_|refine aD ?_|(first|apply zB|apply zA|apply zC|apply zD)<;>intro hg<;>try with_unfolding_all cases hg;done|refine aE ?_|refine aF ?_|refine aG ?_|refine aH ?_ ?_<;>intro hv<;>try with_unfolding_all cases hv;done)
 refine yS (α:=Nat×Bool×List Val) (fun a=>⟨[(2,.fn f [] [.box 0 0,.box 1 0]),(3,.box 2 0),(6,.box 3 0),(7,match a.2.1 with|true=>.hs 4 0|false=>.t (.sl true true [])),(10,.t (.int .i64 (n:Int))),(11,.t (.int .i64 a.1))],
   match a.2.1 with|true=>[.box [.t w00,.t w01],.box [.t w10],.box [.t (.sl nl cl (kl.map Ans.c)),.t (.sl nl2 cl2 ns)],.box (AZero.c.map .t),.arr 3 0 false (a.2.2.map Val.c)]|false=>[.box [.t w00,.t w01],.box [.t w10],.box [.t (.sl nl cl (kl.map Ans.c)),.t (.sl nl2 cl2 ns)],.box (AZero.c.map .t)]⟩)
  (fun a=>n - a.1) (fun a=>a.1≤n∧a.2.2.length=a.1∧(a.2.1=false→a.2.2=[])∧∀v ∈ a.2.2,VOK v) (0,false,[]) (by kernel_rfl) ⟨Nat.zero_le _,rfl,fun _=>rfl,fun v hv=>(by cases hv)⟩ ?_
 rintro⟨i,st,out⟩ ⟨hi,ho,hno,hor⟩
 try dsimp only at hi ho hno hor
 have hle:lens 3 (out.map Val.c)=true:=kU Val.c 3 (fun a=>rfl) out;simp only[AZero,Ans.c,List.map_cons,List.map_nil]
 by_cases hi':i<n
 ·have hw:IntKind.i64.wrap ((i:Int)+1)=((i+1:Nat):Int):=by rw[wrap64]<;>omega
  have hd:decide ((i:Int)<(n:Int))=true:=by simpa using hi'
  have hsm:decide (i+1<4294967296)=true:=by simp;omega
  have hg:=zCY nl cl nl2 cl2 kl ns i;have hp:=zBd hk i;generalize getA kl i=g at hg hp;clear hk hdo;cases st with
  |true =>
   clear hno
   (with_reducible repeat' first|apply aA|refine aB ?_|refine aC ?_|refine aD ?_|(first|apply zB|apply zA|apply zC|apply zD)<;>intro hg<;>try with_unfolding_all cases hg;done|refine aE ?_|refine aF ?_|refine aG ?_|refine aH ?_ ?_<;>intro hv<;>try with_unfolding_all cases hv;done)
   ·(refine aJ ?_)
    exact⟨g,⟨rfl,rfl⟩,hP g hp (by clear F_ hP;intro h0;simp_all)⟩
   refine zM (i+1,true,out++[g.v]) (by first|omega|(dsimp only;omega)) ⟨by first|omega|(dsimp only;omega),by simp [ho],fun h=>(by cases h),fun x hx=>?_⟩ (by(simp only[yD,zU,F_,tidy,xJ,canon,reach,yK,refs,xH,catMap,depth,renL,ren,renO,sub,sub1,upto,mem,place,fresh,cond_true,Ab.get,nth,List.map,List.zip_cons_cons,List.zip_nil_right,List.take,List.append_nil,List.nil_append,List.cons_append,Bool.and_true,yM,decide_true,decide_false,Nat.reduceEqDiff,Val.c,List.map_append]<;>exact rfl));rcases List.mem_append.1 hx with h|h
   ·exact hor x h
   rw[List.mem_singleton.1 h];exact hp
  |false =>
   have h0:=hno rfl;subst h0;simp at ho;subst ho;clear hno hor
   (with_reducible repeat' first|apply aA|refine aB ?_|refine aC ?_|refine aD ?_|(first|apply zB|apply zA|apply zC|apply zD)<;>intro hg<;>try with_unfolding_all cases hg;done|refine aE ?_|refine aF ?_|refine aG ?_|refine aH ?_ ?_<;>intro hv<;>try with_unfolding_all cases hv;done)
   ·(refine aJ ?_)
    exact⟨g,⟨rfl,rfl⟩,hP g hp (by clear F_ hP;intro h0;simp_all)⟩
   refine zM (1,true,[g.v]) (by first|omega|(dsimp only;omega)) ⟨by first|omega|(dsimp only;omega),by simp,fun h=>(by cases h),fun x hx=>?_⟩ (by(simp only[yD,zU,F_,tidy,xJ,canon,reach,yK,refs,xH,catMap,depth,renL,ren,renO,sub,sub1,upto,mem,place,fresh,cond_true,Ab.get,nth,List.map,List.zip_cons_cons,List.zip_nil_right,List.take,List.append_nil,List.nil_append,List.cons_append,Bool.and_true,yM,decide_true,decide_false,Nat.reduceEqDiff,Val.c]<;>exact rfl));rw[List.mem_singleton.1 hx];exact hp
 have hd:decide ((i:Int)<(n:Int))=false:=by simpa using hi'
 cases st with
 |true =>
  obtain⟨a,ha,hap⟩:=hdo out false false (by omega) hor;clear hdo hor hk hno
  (with_reducible repeat' first|apply aA|refine aB ?_|refine aC ?_|refine aD ?_|(first|apply zB|apply zA|apply zC|apply zD)<;>intro hg<;>try with_unfolding_all cases hg;done|refine aE ?_|refine aF ?_|refine aG ?_|refine aH ?_ ?_<;>intro hv<;>try with_unfolding_all cases hv;done)
  (refine aJ ?_)
  exact⟨a,⟨rfl,rfl⟩,hap⟩
 |false =>
  have h0:=hno rfl;subst h0;obtain⟨a,ha,hap⟩:=hdo [] true true (by omega) (fun v hv=>(by cases hv));simp only[List.map_nil] at ha;clear hdo hor hk hno
  (with_reducible repeat' first|apply aA|refine aB ?_|refine aC ?_|refine aD ?_|(first|apply zB|apply zA|apply zC|apply zD)<;>intro hg<;>try with_unfolding_all cases hg;done|refine aE ?_|refine aF ?_|refine aG ?_|refine aH ?_ ?_<;>intro hv<;>try with_unfolding_all cases hv;done)
  (refine aJ ?_)
  exact⟨a,⟨rfl,rfl⟩,hap⟩
def xA(b:Bool):List Tree:=[.bool b]
theorem zMW (f:Nat) (hb:zF Tryz.prog f=true) (hbp:∀x,CC.prim f x=none) (F:Val→Val→Val) (hF:∀a b,VOK a→VOK b→Om CC f [.t (.sl false false [[.int .u8 a.k,.int .i64 a.n,.str a.s],[.int .u8 b.k,.int .i64 b.n,.str b.s]])] []=some (.val (.t (.agg [.int .u8 (F a b).k,.int .i64 (F a b).n,.str (F a b).s])),[]))
  (hFp:∀a b,VOK a→VOK b→VOK (F a b)) (e:Int) (nl cl nl2 cl2:Bool) (kl:List Ans) (nb:List Bool) (hk:∀a ∈ kl,AOK a) :
  ∃x:Ans,Om CC 116 [.t (.agg [.sl nl cl (kl.map Ans.c),.sl nl2 cl2 (nb.map xA)]),.t (.int .i64 e),.t (.fn f)] []=some (.val (.t (.agg [.int .u8 x.v.k,.int .i64 x.v.n,.str x.v.s,.int .i64 x.e])),[])∧AOK x:=by
 refine zN zXC rfl ?_
 (have F_:=c5 zK zO zR zL (c5 zI zH yB zGL (c5 kY xY kV jB (c3 wP zY5 zMI)));show W CC 0 42 (zE 116) _ ⟨[(0,_),(1,_),(2,_)],[]⟩ _)
 obtain⟨t,ht,htp⟩:=zEY nl cl nl2 cl2 kl (nb.map xA) 0 hk;obtain⟨u,hu,hup⟩:=zEY nl cl nl2 cl2 kl (nb.map xA) 1 hk;have ht:Om CC 117 [.t (.agg [.sl nl cl (kl.map Ans.c),.sl nl2 cl2 (nb.map xA)]),.t (.int .i64 0)] []=_:=ht;have hu:Om CC 117 [.t (.agg [.sl nl cl (kl.map Ans.c),.sl nl2 cl2 (nb.map xA)]),.t (.int .i64 1)] []=_:=hu;have hf:=hF t.v u.v htp hup;have hfp:=hFp t.v u.v htp hup;clear hk hF hFp
 (with_reducible repeat' first|apply aA|refine aB ?_|refine aC ?_|refine aD ?_|(first|apply zB|apply zA|apply zC|apply zD)<;>intro hg<;>try with_unfolding_all cases hg;done|refine aE ?_|refine aF ?_|refine aG ?_|refine aH ?_ ?_<;>intro hv<;>try with_unfolding_all cases hv;done)
 all_goals refine aJ ?_
 all_goals first|exact⟨t,⟨rfl,rfl⟩,htp⟩|exact⟨u,⟨rfl,rfl⟩,hup⟩|exact⟨⟨F t.v u.v,0⟩,⟨rfl,rfl⟩,hfp⟩
theorem zNZ(i:Nat)(k:Tree)(nl2 cl2:Bool)(nb:List Bool):∃r:Bool,Om CC 167 [.t (.int .i64 (i:Int)),.box 0 0] [.box [.t k,.t (.sl nl2 cl2 (nb.map xA))]]=some (.val (.t (.bool r)),[.box [.t k,.t (.sl nl2 cl2 (nb.map xA))]])∧True:=by
 refine jS zV0 rfl ?_
 (have F_:=c5 zK zO zR zL (c5 zI zH yB kY (c3 xY kV (c2 jB yBJ)));show W CC 1 16 (zE 167) _ ⟨[(0,_),(1,_)],[_]⟩ _)
 by_cases hi:i<nb.length
 ·have hd:decide ((i:Int)<nb.length)=true:=by simpa using hi
  have he:nb[i]?=some nb[i]:=List.getElem?_eq_getElem hi
  (have x0_:=@xA.eq_1;(with_reducible repeat' first|apply aA|refine aB ?_|refine aC ?_|refine aD ?_|(first|apply zB|apply zA|apply zC|apply zD)<;>intro hg<;>try with_unfolding_all cases hg;done|refine aE ?_|refine aF ?_|refine aG ?_|refine aH ?_ ?_<;>intro hv<;>try with_unfolding_all cases hv;done);all_goals clear x0_)
  all_goals refine aJ ?_
  all_goals exact⟨_,⟨rfl,rfl⟩,trivial⟩
 have hd:decide ((i:Int)<nb.length)=false:=by simpa using hi
 (have x0_:=@xA.eq_1;(with_reducible repeat' first|apply aA|refine aB ?_|refine aC ?_|refine aD ?_|(first|apply zB|apply zA|apply zC|apply zD)<;>intro hg<;>try with_unfolding_all cases hg;done|refine aE ?_|refine aF ?_|refine aG ?_|refine aH ?_ ?_<;>intro hv<;>try with_unfolding_all cases hv;done);all_goals clear x0_)
 all_goals refine aJ ?_
 all_goals exact⟨_,⟨rfl,rfl⟩,trivial⟩
theorem zXu (a b:Val) (x y sm:Bool) (k:Tree) (nl2 cl2:Bool) (nb:List Bool) (ha:VOK a) (hb:VOK b) :
  ∃x':Ans,Om CC 165 [.t (.sl x y [[.int .u8 a.k,.int .i64 a.n,.str a.s],[.int .u8 b.k,.int .i64 b.n,.str b.s]]),.box 0 0,.box 1 0] [.box [.t k,.t (.sl nl2 cl2 (nb.map xA))],.box [.t (.bool sm)]] =
   some (.val (.t (.agg [.int .u8 x'.v.k,.int .i64 x'.v.n,.str x'.v.s,.int .i64 x'.e])),[.box [.t k,.t (.sl nl2 cl2 (nb.map xA))],.box [.t (.bool sm)]])∧AOK x'∧TB x':=by
 refine jS zVV rfl ?_
 (have F_:=c5 zK zO zR zL (c5 zI zH yB xY (c5 wP yBt zZh zQ1 (c5 zDk zNi zDD @zIj (c3 @qZ @zBl (c2 @qV @zCQ)))));show W CC 2 53 (zE 165) _ ⟨[(0,_),(1,_),(2,_)],[_,_]⟩ _)
 obtain⟨r0,h0,_⟩:=zNZ 0 k nl2 cl2 nb;obtain⟨r1,h1,_⟩:=zNZ 1 k nl2 cl2 nb;have h0:Om CC 167 [.t (.int .i64 0),.box 0 0] _=_:=h0;have h1:Om CC 167 [.t (.int .i64 1),.box 0 0] _=_:=h1;obtain⟨z,hz,_⟩:=zGi [a,b] x y (by simp);simp only[List.map_cons,List.map_nil,Val.c] at hz;clear ha hb
 (with_reducible repeat' first|apply aA|refine aB ?_|refine aC ?_|refine aD ?_|(first|apply zB|apply zA|apply zC|apply zD)<;>intro hg<;>try with_unfolding_all cases hg;done|refine aE ?_|refine aF ?_|refine aG ?_|refine aH ?_ ?_<;>intro hv<;>try with_unfolding_all cases hv;done)
 all_goals refine aJ ?_
 all_goals first|exact⟨⟨qC _,0⟩,⟨rfl,rfl⟩,zBV _,zI8 _⟩|exact⟨AZero,⟨rfl,rfl⟩,xE,zBh⟩|exact⟨Fail 8,⟨rfl,rfl⟩,zDs _,zR6 _ (by decide)⟩
theorem zJd(nl cl nl2 cl2:Bool)(kl:List Ans)(nb:List Bool)(hk:∀a ∈ kl,AOK a)(sm:Bool):∃x:Ans,Om CC 118 [.t (.agg [.sl nl cl (kl.map Ans.c),.sl nl2 cl2 (nb.map xA)]),.t (.bool sm)] []=some (.val (.t (.agg [.int .u8 x.v.k,.int .i64 x.v.n,.str x.v.s,.int .i64 x.e])),[])∧AOK x∧TB x:=by
 refine zN zXk rfl ?_
 (have F_:=c5 zK zO zR zL (c5 zI zH yB kY (c5 xY kV jB zAU (c2 yCX zGQ)));show W CC 0 8 (zE 118) _ ⟨[(0,_),(1,_)],[]⟩ _)
 obtain⟨t,ht,htp⟩:=zRr (fun a=>AOK a∧TB a) (fun a h he=>⟨h,h,.inl he⟩) 165 zZg (fun x=>zZ _ x (by decide)) (.sl nl cl (kl.map Ans.c)) (.sl nl2 cl2 (nb.map xA)) (.bool sm) nl cl nl2 cl2 kl (nb.map xA) 2 (by decide) hk (fun l x y hl hv=>by
  match l,hl,hv with
  |[a,b],_,hv =>
   obtain⟨r,hr,hrp⟩:=zXu a b x y sm (.sl nl cl (kl.map Ans.c)) nl2 cl2 nb (hv a (by simp)) (hv b (by simp));exact⟨r,hr,hrp⟩)
 have ht:Om CC 133 [.t (.agg [.sl nl cl (kl.map Ans.c),.sl nl2 cl2 (nb.map xA)]),.t (.int .i64 2),.fn 165 [] [.box 0 0,.box 1 0]] _=_:=ht;clear hk
 (with_reducible repeat' first|apply aA|refine aB ?_|refine aC ?_|refine aD ?_|(first|apply zB|apply zA|apply zC|apply zD)<;>intro hg<;>try with_unfolding_all cases hg;done|refine aE ?_|refine aF ?_|refine aG ?_|refine aH ?_ ?_<;>intro hv<;>try with_unfolding_all cases hv;done)
 all_goals refine aJ ?_
 all_goals exact⟨t,⟨rfl,rfl⟩,htp⟩
theorem zLQ(c:Int):∃x:Bool,Om CC 120 [.t (.int .i64 c)] []=some (.val (.t (.bool x)),[])∧(True):=by
 refine zN zU1 rfl ?_
 (have F_:=c2 zO zZG;show W CC 0 5 (zE 120) _ ⟨[(0,_)],[]⟩ _)
 (with_reducible repeat' first|apply aA|refine aB ?_|refine aC ?_|refine aD ?_|(first|apply zB|apply zA|apply zC|apply zD)<;>intro hg<;>try with_unfolding_all cases hg;done|refine aE ?_|refine aF ?_|refine aG ?_|refine aH ?_ ?_<;>intro hv<;>try with_unfolding_all cases hv;done)
 all_goals refine aJ ?_
 all_goals exact⟨_,⟨rfl,rfl⟩,by trivial⟩
noncomputable def zUv(c:Int):Bool:=(zLQ c).choose
theorem zTx(c:Int):Om CC 120 [.t (.int .i64 c)] []=some (.val (.t (.bool (zUv c))),[]):=(zLQ c).choose_spec.1
theorem zLt(c:Int):∃x:Bool,Om CC 121 [.t (.int .i64 c)] []=some (.val (.t (.bool x)),[])∧(True):=by
 refine zN zWv rfl ?_
 (have F_:=c2 zO zXM;show W CC 0 5 (zE 121) _ ⟨[(0,_)],[]⟩ _)
 (with_reducible repeat' first|apply aA|refine aB ?_|refine aC ?_|refine aD ?_|(first|apply zB|apply zA|apply zC|apply zD)<;>intro hg<;>try with_unfolding_all cases hg;done|refine aE ?_|refine aF ?_|refine aG ?_|refine aH ?_ ?_<;>intro hv<;>try with_unfolding_all cases hv;done)
 all_goals refine aJ ?_
 all_goals exact⟨_,⟨rfl,rfl⟩,by trivial⟩
noncomputable def zUw(c:Int):Bool:=(zLt c).choose
theorem zS8(c:Int):Om CC 121 [.t (.int .i64 c)] []=some (.val (.t (.bool (zUw c))),[]):=(zLt c).choose_spec.1
theorem zLU(c:Int):∃x:Bool,Om CC 122 [.t (.int .i64 c)] []=some (.val (.t (.bool x)),[])∧(True):=by
 refine zN zWa rfl ?_
 (have F_:=c2 zO yAR;show W CC 0 5 (zE 122) _ ⟨[(0,_)],[]⟩ _)
 (with_reducible repeat' first|apply aA|refine aB ?_|refine aC ?_|refine aD ?_|(first|apply zB|apply zA|apply zC|apply zD)<;>intro hg<;>try with_unfolding_all cases hg;done|refine aE ?_|refine aF ?_|refine aG ?_|refine aH ?_ ?_<;>intro hv<;>try with_unfolding_all cases hv;done)
 all_goals refine aJ ?_
 all_goals exact⟨_,⟨rfl,rfl⟩,by trivial⟩
noncomputable def zUz(c:Int):Bool:=(zLU c).choose
theorem zTo(c:Int):Om CC 122 [.t (.int .i64 c)] []=some (.val (.t (.bool (zUz c))),[]):=(zLU c).choose_spec.1
theorem zLB(c:Int):∃x:Bool,Om CC 123 [.t (.int .i64 c)] []=some (.val (.t (.bool x)),[])∧(True):=by
 refine zN zW3 rfl ?_
 (have F_:=c2 zO yAL;show W CC 0 5 (zE 123) _ ⟨[(0,_)],[]⟩ _)
 (with_reducible repeat' first|apply aA|refine aB ?_|refine aC ?_|refine aD ?_|(first|apply zB|apply zA|apply zC|apply zD)<;>intro hg<;>try with_unfolding_all cases hg;done|refine aE ?_|refine aF ?_|refine aG ?_|refine aH ?_ ?_<;>intro hv<;>try with_unfolding_all cases hv;done)
 all_goals refine aJ ?_
 all_goals exact⟨_,⟨rfl,rfl⟩,by trivial⟩
noncomputable def zUB(c:Int):Bool:=(zLB c).choose
theorem zTb(c:Int):Om CC 123 [.t (.int .i64 c)] []=some (.val (.t (.bool (zUB c))),[]):=(zLB c).choose_spec.1
theorem zSX (g:Nat) (hg:zF Tryz.prog g=true) (hgp:∀x,CC.prim g x=none) (G:Int→Bool) (hG:∀c,Om CC g [.t (.int .i64 c)] []=some (.val (.t (.bool (G c))),[])) (a b:Val) (x y:Bool) :
  ∃x':Ans,Om CC 169 [.t (.sl x y [[.int .u8 a.k,.int .i64 a.n,.str a.s],[.int .u8 b.k,.int .i64 b.n,.str b.s]]),.box 0 0] [.box [.t (.fn g)]]=some (.val (.t (.agg [.int .u8 x'.v.k,.int .i64 x'.v.n,.str x'.v.s,.int .i64 x'.e])),[.box [.t (.fn g)]])∧AOK x'∧TB x':=by
 refine jS zXd rfl ?_
 (have F_:=c5 zK zO zR zL (c5 zI zH yB zMN (c5 xY wP zX8 zQ1 (c5 zDk zNi zMy zDD (c5 @zIj @qZ @zBl @qV @zCQ))));show W CC 1 35 (zE 169) _ ⟨[(0,_),(1,_)],[_]⟩ _)
 obtain⟨z,hz,_⟩:=zGi [a,b] x y (by simp);obtain⟨f1,hf1,_⟩:=zGv 1 2 [a,b] x y (by simp);obtain⟨f2,hf2,_⟩:=zGv 3 3 [a,b] x y (by simp);simp only[List.map_cons,List.map_nil,Val.c] at hz hf1 hf2
 (with_reducible repeat' first|apply aA|refine aB ?_|refine aC ?_|refine aD ?_|(first|apply zB|apply zA|apply zC|apply zD)<;>intro hg<;>try with_unfolding_all cases hg;done|refine aE ?_|refine aF ?_|refine aG ?_|refine aH ?_ ?_<;>intro hv<;>try with_unfolding_all cases hv;done)
 all_goals refine aJ ?_
 all_goals first|exact⟨⟨qC _,0⟩,⟨rfl,rfl⟩,zBV _,zI8 _⟩|exact⟨AZero,⟨rfl,rfl⟩,xE,zBh⟩|exact⟨Fail 8,⟨rfl,rfl⟩,zDs _,zR6 _ (by decide)⟩
theorem zEX (g:Nat) (hg:zF Tryz.prog g=true) (hgp:∀x,CC.prim g x=none) (G:Int→Bool) (hG:∀c,Om CC g [.t (.int .i64 c)] []=some (.val (.t (.bool (G c))),[])) (nl cl nl2 cl2:Bool) (kl:List Ans) (nb:List Bool) (hk:∀a ∈ kl,AOK a) :
  ∃x:Ans,Om CC 119 [.t (.agg [.sl nl cl (kl.map Ans.c),.sl nl2 cl2 (nb.map xA)]),.t (.fn g)] []=some (.val (.t (.agg [.int .u8 x.v.k,.int .i64 x.v.n,.str x.v.s,.int .i64 x.e])),[])∧AOK x∧TB x:=by
 refine zN zXi rfl ?_
 (have F_:=c5 zK zO zR zL (c5 zI zH yB zMN (c5 kY xY kV jB (c3 zAU yDa zGQ)));show W CC 0 8 (zE 119) _ ⟨[(0,_),(1,_)],[]⟩ _)
 obtain⟨t,ht,htp⟩:=zLr (fun a=>AOK a∧TB a) (fun a h he=>⟨h,h,.inl he⟩) 169 zY3 (fun x=>zZ _ x (by decide)) (.fn g) nl cl nl2 cl2 kl (nb.map xA) 2 (by decide) hk (fun l x y hl hv=>by
  match l,hl,hv with
  |[a,b],_,hv=>exact zSX g hg hgp G hG a b x y)
 have ht:Om CC 133 [.t (.agg [.sl nl cl (kl.map Ans.c),.sl nl2 cl2 (nb.map xA)]),.t (.int .i64 2),.fn 169 [] [.box 0 0]] _=_:=ht;clear hk hG
 (with_reducible repeat' first|apply aA|refine aB ?_|refine aC ?_|refine aD ?_|(first|apply zB|apply zA|apply zC|apply zD)<;>intro hg<;>try with_unfolding_all cases hg;done|refine aE ?_|refine aF ?_|refine aG ?_|refine aH ?_ ?_<;>intro hv<;>try with_unfolding_all cases hv;done)
 all_goals refine aJ ?_
 all_goals exact⟨t,⟨rfl,rfl⟩,htp⟩
theorem zRP (g:Nat) (hg:zF Tryz.prog g=true) (hgp:∀x,CC.prim g x=none) (kind:Int) (l:List Val) (hl:l.length<9223372036854775808) (x y:Bool) (r:Ans) (hr:Om CC g [.t (.sl x y (l.map Val.c))] []=some (.val (.t (.agg [.int .u8 r.v.k,.int .i64 r.v.n,.str r.v.s,.int .i64 r.e])),[])) (hrp:AOK r) :
  ∃x':Ans,Om CC 171 [.t (.sl x y (l.map Val.c)),.box 0 0,.box 1 0] [.box [.t (.int .u8 kind)],.box [.t (.fn g)]]=some (.val (.t (.agg [.int .u8 x'.v.k,.int .i64 x'.v.n,.str x'.v.s,.int .i64 x'.e])),[.box [.t (.int .u8 kind)],.box [.t (.fn g)]])∧AOK x':=by
 refine jS zU0 rfl ?_
 (have F_:=c5 zK zR zL zI (c5 zH yB xY wP (c5 zAU yCs zNi zMy (c2 zDD @zBl)));show W CC 2 19 (zE 171) _ ⟨[(0,_),(1,_),(2,_)],[_,_]⟩ _)
 obtain⟨z,hz,_⟩:=zGi l x y hl;obtain⟨f1,hf1,_⟩:=zGv kind kind l x y hl
 (with_reducible repeat' first|apply aA|refine aB ?_|refine aC ?_|refine aD ?_|(first|apply zB|apply zA|apply zC|apply zD)<;>intro hg<;>try with_unfolding_all cases hg;done|refine aE ?_|refine aF ?_|refine aG ?_|refine aH ?_ ?_<;>intro hv<;>try with_unfolding_all cases hv;done)
 all_goals refine aJ ?_
 all_goals first|exact⟨r,⟨rfl,rfl⟩,hrp⟩|exact⟨AZero,⟨rfl,rfl⟩,xE⟩|exact⟨Fail 8,⟨rfl,rfl⟩,zDs _⟩
theorem zEx (g:Nat) (hg:zF Tryz.prog g=true) (hgp:∀x,CC.prim g x=none) (kind:Int) (n:Nat) (hn:n<4294967295) (hG:∀(l:List Val) (x y:Bool),l.length=n→(∀v ∈ l,VOK v)→∃r:Ans,Om CC g [.t (.sl x y (l.map Val.c))] []=some (.val (.t (.agg [.int .u8 r.v.k,.int .i64 r.v.n,.str r.v.s,.int .i64 r.e])),[])∧AOK r) (nl cl nl2 cl2:Bool) (kl:List Ans) (nb:List Bool) (hk:∀a ∈ kl,AOK a) :
  ∃x:Ans,Om CC 124 [.t (.agg [.sl nl cl (kl.map Ans.c),.sl nl2 cl2 (nb.map xA)]),.t (.int .i64 (n:Int)),.t (.int .u8 kind),.t (.fn g)] []=some (.val (.t (.agg [.int .u8 x.v.k,.int .i64 x.v.n,.str x.v.s,.int .i64 x.e])),[])∧AOK x:=by
 refine zN zXs rfl ?_
 (have F_:=c5 zK zO zR zL (c5 zI zH yB kY (c5 xY kV jB zAU (c2 zZH zGQ)));show W CC 0 13 (zE 124) _ ⟨[(0,_),(1,_),(2,_),(3,_)],[]⟩ _)
 obtain⟨t,ht,htp⟩:=zQk 171 yCn (fun x=>zZ _ x (by decide)) (.int .u8 kind) (.fn g) nl cl nl2 cl2 kl (nb.map xA) n hn hk (fun l x y hl hv=>by
  obtain⟨r,hr,hrp⟩:=hG l x y hl hv;exact zRP g hg hgp kind l (by omega) x y r hr hrp)
 clear hk hG
 (with_reducible repeat' first|apply aA|refine aB ?_|refine aC ?_|refine aD ?_|(first|apply zB|apply zA|apply zC|apply zD)<;>intro hg<;>try with_unfolding_all cases hg;done|refine aE ?_|refine aF ?_|refine aG ?_|refine aH ?_ ?_<;>intro hv<;>try with_unfolding_all cases hv;done)
 all_goals refine aJ ?_
 all_goals exact⟨t,⟨rfl,rfl⟩,htp⟩
theorem zUb (g:Nat) (hg:zF Tryz.prog g=true) (hgp:∀x,CC.prim g x=none) (a b:Val) (x y:Bool) (r:Val×Int) (hr:Om CC g [.t (.agg [.int .u8 a.k,.int .i64 a.n,.str a.s]),.t (.agg [.int .u8 b.k,.int .i64 b.n,.str b.s])] []=some (.val (.tup [.t (.agg [.int .u8 r.1.k,.int .i64 r.1.n,.str r.1.s]),.t (.int .i64 r.2)]),[])) (hrp:VOK r.1) :
  ∃x':Ans,Om CC 173 [.t (.sl x y [[.int .u8 a.k,.int .i64 a.n,.str a.s],[.int .u8 b.k,.int .i64 b.n,.str b.s]]),.box 0 0] [.box [.t (.fn g)]]=some (.val (.t (.agg [.int .u8 x'.v.k,.int .i64 x'.v.n,.str x'.v.s,.int .i64 x'.e])),[.box [.t (.fn g)]])∧AOK x':=by
 refine jS zVW rfl ?_
 (have F_:=c5 zK zL zI zH (c5 yB xY wP zMo (c5 zYG zFE @zEe @qV @zCQ));show W CC 1 15 (zE 173) _ ⟨[(0,_),(1,_)],[_]⟩ _)
 (with_reducible repeat' first|apply aA|refine aB ?_|refine aC ?_|refine aD ?_|(first|apply zB|apply zA|apply zC|apply zD)<;>intro hg<;>try with_unfolding_all cases hg;done|refine aE ?_|refine aF ?_|refine aG ?_|refine aH ?_ ?_<;>intro hv<;>try with_unfolding_all cases hv;done)
 all_goals refine aJ ?_
 all_goals exact⟨Told r.1 r.2,⟨rfl,rfl⟩,zFH _ _ hrp⟩
theorem zH1 (g:Nat) (hg:zF Tryz.prog g=true) (hgp:∀x,CC.prim g x=none) (hG:∀a b:Val,VOK a→VOK b→∃r:Val×Int,Om CC g [.t (.agg [.int .u8 a.k,.int .i64 a.n,.str a.s]),.t (.agg [.int .u8 b.k,.int .i64 b.n,.str b.s])] []=some (.val (.tup [.t (.agg [.int .u8 r.1.k,.int .i64 r.1.n,.str r.1.s]),.t (.int .i64 r.2)]),[])∧VOK r.1) (nl cl nl2 cl2:Bool) (kl:List Ans) (nb:List Bool) (hk:∀a ∈ kl,AOK a) :
  ∃x:Ans,Om CC 128 [.t (.agg [.sl nl cl (kl.map Ans.c),.sl nl2 cl2 (nb.map xA)]),.t (.fn g)] []=some (.val (.t (.agg [.int .u8 x.v.k,.int .i64 x.v.n,.str x.v.s,.int .i64 x.e])),[])∧AOK x:=by
 refine zN zV8 rfl ?_
 (have F_:=c5 zK zO zR zL (c5 zI zH yB kY (c5 xY kV jB zAU (c3 zMo zZA zGQ)));show W CC 0 8 (zE 128) _ ⟨[(0,_),(1,_)],[]⟩ _)
 obtain⟨t,ht,htp⟩:=zLr AOK (fun a h _=>h) 173 zYo (fun x=>zZ _ x (by decide)) (.fn g) nl cl nl2 cl2 kl (nb.map xA) 2 (by decide) hk (fun l x y hl hv=>by
  match l,hl,hv with
  |[a,b],_,hv =>
   obtain⟨r,hr,hrp⟩:=hG a b (hv a (by simp)) (hv b (by simp));exact zUb g hg hgp a b x y r hr hrp)
 have ht:Om CC 133 [.t (.agg [.sl nl cl (kl.map Ans.c),.sl nl2 cl2 (nb.map xA)]),.t (.int .i64 2),.fn 173 [] [.box 0 0]] _=_:=ht;clear hk hG
 (with_reducible repeat' first|apply aA|refine aB ?_|refine aC ?_|refine aD ?_|(first|apply zB|apply zA|apply zC|apply zD)<;>intro hg<;>try with_unfolding_all cases hg;done|refine aE ?_|refine aF ?_|refine aG ?_|refine aH ?_ ?_<;>intro hv<;>try with_unfolding_all cases hv;done)
 all_goals refine aJ ?_
 all_goals exact⟨t,⟨rfl,rfl⟩,htp⟩
end Go.Ab
