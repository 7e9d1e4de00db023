/- Lemmas. -/
import Derived.Test.YtdbfacakphncfaaGreatDoorG21
set_option maxRecDepth 1000000
set_option maxHeartbeats 40000000
set_option linter.all false
namespace Go.Ab
open Go.Proofs
attribute [local irreducible] W RW RR
def yIR{α:Type}(a:α)(l:List α):idx (a::l) (0:Int)=some a:=rfl
def yII{α:Type}(a b:α)(l:List α):idx (a::b::l) (1:Int)=some b:=rfl
def le00:((0:Int)≤0)=True:=by simp
def le01:((0:Int)≤1)=True:=by simp
def lt01:((0:Int)<((1:Nat):Int))=True:=by simp
def lt02:((0:Int)<((2:Nat):Int))=True:=by simp
def lt12:((1:Int)<((2:Nat):Int))=True:=by simp
def ltS(n:Nat):((0:Int)<((n+1:Nat):Int))=True:=by simp
def yHW{α:Type}(a:α)(l:List α)(j:Nat):nth (a::l) (1+j)=nth l j:=by rw[Nat.add_comm];rfl
def le11:((1:Int)≤((1:Nat):Int))=True:=by simp
def le1S(n:Nat):((1:Int)≤((n+1:Nat):Int))=True:=by simp;omega
def leZ(n:Nat):((n:Int)≤(n:Int))=True:=by simp
def toN0:Int.toNat 0=0:=rfl
def toN1:Int.toNat 1=1:=rfl
def zYX (x:Test) (all:List Ans) (b:Bool) (self:Val) (vnl vcl:Bool) (vars:List Bind) (hx:TOK x) (hm:∀a ∈ all,AOK a) (mg:all.length<4294967295) (hs:VOK self) (hv:∀b ∈ vars,VOK b.v) (hO:vars.length<9223372036854775808) :
  Om CC 24 [.t (.agg x.c),.t (.sl b b (all.map Ans.c)),.t (.agg [.int .u8 self.k,.int .i64 self.n,.str self.s]),.t (.sl vnl vcl (vars.map Bind.c))] [] =
   some (.val (.t (.agg [.int .u8 (qR x.s all self vars).v.k,.int .i64 (qR x.s all self vars).v.n,.str (qR x.s all self vars).v.s,.int .i64 (qR x.s all self vars).e])),[]):=by
 refine zL yGg rfl ?_;have hh:=zWn x;have h7:Hid _:=⟨fun s=>zRa s x.a self vnl vcl vars hx.a hs hv hO⟩
 have km:Hid _:=⟨fun s=>zRa s x.b self vnl vcl vars hx.b hs hv hO⟩
 have ko:Hid _:=⟨fun s=>zOy s x.a self vars hx.a hs hv⟩
 have kp:Hid _:=⟨fun s=>zOy s x.b self vars hx.b hs hv⟩
 have hP:Hid _:=⟨zQY all hm x.kids.l⟩
 have ka:Hid _:=⟨hx.kids⟩
 have hR:Hid _:=⟨zQb x all self vars⟩
 have kr:Hid _:=⟨zJQ x⟩
 generalize qR x.s all self vars=R at hR ⊢;clear hx hm hs hv;obtain⟨op,⟨anl,acl,al⟩,⟨bnl,bcl,bl⟩,low,high,⟨knl,kcl,ks⟩,line,col⟩:=x;obtain⟨sk,sn,ss⟩:=self;simp only[Test.c,Sl.t] at hh;have w0:IntKind.i64.wrap (0+1)=1:=by decide
 have w1:IntKind.i64.wrap (1+1)=2:=by decide
 have d0:decide ((0:Int)<1)=true:=by decide
 have d1:decide ((1:Int)<1)=false:=by decide
 have d2:decide ((0:Int)<2)=true:=by decide
 have d3:decide ((1:Int)<2)=true:=by decide
 have d4:decide ((2:Int)<2)=false:=by decide
 have d5:decide ((0:Int)<0)=false:=by decide
 have z00:decide ((0:Int)<((0:Nat):Int))=false:=by decide
 have f01:((0:Int)==1)=false:=by decide
 have f02:((0:Int)==2)=false:=by decide
 have f11:((1:Int)==1)=true:=by decide
 have f21:((2:Int)==1)=false:=by decide
 have f22:((2:Int)==2)=true:=by decide
 (have F_:=c5 zF zG zP zE (c5 zC zB zAg zO (c5 zK zR zAh zEb (c5 zX3 zM yR zRS (c5 zXJ zHX zI yH7 (c5 yIE yIJ yIK yIt (c5 yIx @yIR @yII @le00 (c5 @le01 @lt01 @lt02 @lt12 (c5 @ltS @toN0 @toN1 @le11 (c3 @le1S @leZ @yHW)))))))));show W CC 0 139 (zA 24) _ ⟨[(0,_),(1,_),(2,_),(3,_)],[]⟩ _)
 by_cases kb:ks=[]
 ·subst kb;have kt:zAa all []=[AZero]:=rfl;have k3:Hid _:=⟨hR.h⟩
  try dsimp only at hP hR
  (refine gA ?_)
  rw[kt] at hP;rw[kt] at hR;clear k3
  (refine aI ?_)
  (refine gA ?_)
  (refine aI ?_)
  (repeat' first|refine gA ?_|refine gT ?_ ?_<;>intro hv<;>try cases hv;done|fail)
  (refine aI ?_)
  rcases kr.h with h1|⟨s,h1⟩|⟨s,t,h1⟩
  ·rw[h1] at hh;have hk:=hR.h.1 h1;simp only[opsT,jW,List.map_nil] at hh;clear h1
   by_cases o1:op=1
   ·have e1:(op==1)=true:=by simp [o1]
    obtain rfl:R=⟨⟨4,1,[]⟩,0⟩:=by rw[hk];simp [zA2,o1]
    clear o1 hk
    (have x0_:=@Ans.c.eq_1;(repeat' first|refine gA ?_|refine gT ?_ ?_<;>intro hv<;>try cases hv;done|refine aI ?_|fail);all_goals clear x0_)
    (refine aK ?_ ?_)
    ·rfl
    rfl
   have e1:(op==1)=false:=by simpa using o1
   by_cases o8:op=8
   ·have e8:(op==8)=true:=by simp [o8]
    obtain rfl:R=NotU (⟨⟨0,0,[]⟩,0⟩:Ans):=by rw[hk];simp only[zA2,o8];rfl
    have hn:=zJt 0 0 [] 0;generalize NotU (⟨⟨0,0,[]⟩,0⟩:Ans)=q at hn ⊢;obtain⟨⟨rk,rn,rs⟩,re⟩:=q;clear o1 o8 hk
    (have x0_:=@Ans.c.eq_1;(repeat' first|refine gA ?_|refine gT ?_ ?_<;>intro hv<;>try cases hv;done|refine aI ?_|fail);all_goals clear x0_)
    (refine aK ?_ ?_)
    ·rfl
    rfl
   have e8:(op==8)=false:=by simpa using o8
   by_cases o9:op=9
   ·have e9:(op==9)=true:=by simp [o9]
    obtain rfl:R=([]:List Ans).foldl uL (⟨⟨0,0,[]⟩,0⟩:Ans):=by rw[hk];simp only[zA2,o9];rfl
    have ku:Hid _:=⟨hP.h⟩
    clear o1 o8 o9 hk
    (have x0_:=@Ans.c.eq_1;(repeat' first|refine gA ?_|refine gT ?_ ?_<;>intro hv<;>try cases hv;done|fail);all_goals clear x0_)
    (refine aI ?_)
    (have x0_:=@Ans.c.eq_1;have x1_:=@Ab.slice.eq_def;have x2_:=@Ab.bound.eq_1;have x3_:=@Ab.bound.eq_2;have x4_:=@Option.getD_none.{0};have x5_:=@Nat.add_sub_cancel;have x6_:=@Nat.sub_self;have x7_:=@Int.natCast_nonneg;(repeat' first|refine gA ?_|refine gT ?_ ?_<;>intro hv<;>try cases hv;done|fail);all_goals clear x0_ x1_ x2_ x3_ x4_ x5_ x6_ x7_)
    (refine aI ?_)
    (have x0_:=@Ans.c.eq_1;(refine gA ?_);all_goals clear x0_)
    (refine aK ?_ ?_)
    ·rfl
    rfl
   have e9:(op==9)=false:=by simpa using o9
   obtain rfl:R=⟨Zero,2⟩:=by rw[hk];simp [zA2,o1,o8,o9]
   clear o1 o8 o9 hk
   (have x0_:=@Ans.c.eq_1;(repeat' first|refine gA ?_|refine gT ?_ ?_<;>intro hv<;>try cases hv;done|refine aI ?_|fail);all_goals clear x0_)
   (refine aK ?_ ?_)
   ·rfl
   rfl
  ·rw[h1] at hh;have hk:=hR.h.2.1 s h1;simp only[opsT,jW,List.map_cons,List.map_nil,Sl.t] at hh;obtain⟨L,hA,hE⟩:=h7.h s;dsimp only at hA hE hk;rw[← hk] at hE;clear h1 hk;clear hR;obtain⟨⟨rk,rn,rs⟩,re⟩:=R;dsimp only at hE
   (have x0_:=@Ans.c.eq_1;(repeat' first|refine gA ?_|refine gT ?_ ?_<;>intro hv<;>try cases hv;done|refine aI ?_|fail);all_goals clear x0_)
   (refine aK ?_ ?_)
   ·rfl
   rfl
  rw[h1] at hh;have hk:=hR.h.2.2 s t h1;simp only[opsT,jW,List.map_cons,List.map_nil,Sl.t] at hh;obtain⟨L,hA,hE⟩:=h7.h s;obtain⟨M,hB,hF⟩:=km.h t;have pa:=ko.h s;have pb:=kp.h t;dsimp only at hA hE hB hF pa pb hk;generalize vG (vJ s (al.map Node.s)) ⟨sk,sn,ss⟩ vars=ea at hE pa hk;generalize vG (vJ t (bl.map Node.s)) ⟨sk,sn,ss⟩ vars=eb at hF pb hk;have hJ:=zHp ea eb pa pb;rw[← hk] at hJ;clear h1 hk pa pb;clear hR;obtain⟨⟨rk,rn,rs⟩,re⟩:=R;obtain⟨⟨eak,ean,eas⟩,eae⟩:=ea;obtain⟨⟨ebk,ebn,ebs⟩,ebe⟩:=eb;dsimp only at hE hF hJ
  (have x0_:=@Ans.c.eq_1;(repeat' first|refine gA ?_|refine gT ?_ ?_<;>intro hv<;>try cases hv;done|refine aI ?_|fail);all_goals clear x0_)
  (refine aK ?_ ?_)
  ·rfl
  rfl
 have hQ:Hid _:=⟨kb⟩
 clear kb
 (refine gA ?_)
 refine yE (α:=Nat×Bool×List Ans) (fun a=>match a.2.1 with
  |true=>⟨[(1,.t (.sl b b (all.map Ans.c))),(3,.t (.sl vnl vcl (vars.map Bind.c))),(4,.box 0 0),(6,.box 1 0),(8,.box 2 0),(9,.hs 3 0),(22,.t (.sl knl kcl (ks.map intC))),(23,.t (.int .i64 ks.length)),(24,.t (.int .i64 a.1))],[.box [.t (.int .u8 op),.t (.sl anl acl (al.map Node.c)),.t (.sl bnl bcl (bl.map Node.c)),.t (.bool low),.t (.bool high),.t (.sl knl kcl (ks.map intC)),.t (.int .i64 line),.t (.int .i64 col)],.box [.t (.int .u8 sk),.t (.int .i64 sn),.t (.str ss)],.box [.t (.int .u8 0),.t (.int .i64 0),.t (.str []),.t (.int .i64 0)],.arr 4 0 false (a.2.2.map Ans.c)]⟩
  |false=>⟨[(1,.t (.sl b b (all.map Ans.c))),(3,.t (.sl vnl vcl (vars.map Bind.c))),(4,.box 0 0),(6,.box 1 0),(8,.box 2 0),(9,.t (.sl true true [])),(22,.t (.sl knl kcl (ks.map intC))),(23,.t (.int .i64 ks.length)),(24,.t (.int .i64 a.1))],[.box [.t (.int .u8 op),.t (.sl anl acl (al.map Node.c)),.t (.sl bnl bcl (bl.map Node.c)),.t (.bool low),.t (.bool high),.t (.sl knl kcl (ks.map intC)),.t (.int .i64 line),.t (.int .i64 col)],.box [.t (.int .u8 sk),.t (.int .i64 sn),.t (.str ss)],.box [.t (.int .u8 0),.t (.int .i64 0),.t (.str []),.t (.int .i64 0)]]⟩)
  (fun a=>ks.length - a.1) (fun a=>a.1≤ks.length∧a.2.1=decide (0<a.1)∧a.2.2=(ks.take a.1).map (kidT all))
  (0,false,[]) (by(have X_:=c2 @Zero.eq_1 @Ans.c.eq_1;exact aTdX)) ⟨Nat.zero_le _,rfl,rfl⟩ ?_
 rintro⟨j,st,kl⟩ ⟨hj,hz,hy⟩
 try dsimp only at hj hz hy
 by_cases hL:j<ks.length
 ·have k4:IntKind.i64.wrap ((j:Int)+1)=((j+1:Nat):Int):=by
   have:=ka.h;dsimp only at this;rw[wrap64]<;>omega
  have hG:ks[j]?=some ks[j]:=List.getElem?_eq_getElem hL;have kv:decide ((j:Int)<ks.length)=true:=by simpa using hL
  have hS:ks.take (j+1)=ks.take j++[ks[j]]:=by rw[List.take_add_one,hG];rfl
  have hu:kl.length=j:=by rw[hy];simp;omega
  have hX:lens 4 (kl.map Ans.c)=true:=qM Ans.c 4 (fun a=>rfl) kl;have hY:decide (j+1<4294967296)=true:=by
   have:=ka.h;simp only[decide_eq_true_eq];dsimp only at this;omega
  generalize ks[j]=k at hG hS;have hq:∀q:Ans,kidT all k=q→kl++[q]=(ks.take (j+1)).map (kidT all):=fun q hq=>by
   rw[hS,hy];simp [hq]
  clear hy hS;cases kw:decide (k<0) with
  |true =>
   have hI:Hid _:=⟨hq AZero (by unfold kidT;rw[if_pos];exact .inl (by simpa using kw))⟩
   clear hq;cases st with
   |true =>
    clear hz
    (refine gA ?_)
    refine zD (j+1,true,kl++[AZero]) (by first|omega|(dsimp only;omega)) ⟨by first|omega|(dsimp only;omega),by simp,hI.h⟩ (by(have X_:=c3 @mapA @AZero.eq_1 (c2 @Zero.eq_1 @Ans.c.eq_1);exact aTdX))
   |false =>
    have hZ:j=0:=by simpa using hz
    subst hZ;obtain rfl:kl=[]:=List.length_eq_zero_iff.1 hu;have hG:ks[0]?=some _:=hG;clear hz hu hX hY
    (refine gA ?_)
    refine zD (1,true,[AZero]) (by first|omega|(dsimp only;omega)) ⟨by first|omega|(dsimp only;omega),rfl,hI.h⟩ (by(have X_:=c3 @mapA @AZero.eq_1 (c2 @Zero.eq_1 @Ans.c.eq_1);exact aTdX))
  |false =>
   cases kx:decide (k ≥ (all.length:Int)) with
   |true =>
    have hI:Hid _:=⟨hq AZero (by unfold kidT;rw[if_pos];exact .inr (by simpa using kx))⟩
    clear hq;cases st with
    |true =>
     clear hz
     (refine gA ?_)
     refine zD (j+1,true,kl++[AZero]) (by first|omega|(dsimp only;omega)) ⟨by first|omega|(dsimp only;omega),by simp,hI.h⟩ (by(have X_:=c3 @mapA @AZero.eq_1 (c2 @Zero.eq_1 @Ans.c.eq_1);exact aTdX))
    |false =>
     have hZ:j=0:=by simpa using hz
     subst hZ;obtain rfl:kl=[]:=List.length_eq_zero_iff.1 hu;have hG:ks[0]?=some _:=hG;clear hz hu hX hY
     (refine gA ?_)
     refine zD (1,true,[AZero]) (by first|omega|(dsimp only;omega)) ⟨by first|omega|(dsimp only;omega),rfl,hI.h⟩ (by(have X_:=c3 @mapA @AZero.eq_1 (c2 @Zero.eq_1 @Ans.c.eq_1);exact aTdX))
   |false =>
    have k5:0≤k:=by simpa using kw
    obtain⟨q,rfl⟩:=Int.eq_ofNat_of_zero_le k5;have k6:q<all.length:=by
     have:¬ ((q:Int) ≥ all.length):=by simpa using kx
     omega
    have k7:all[q]?=some (getA all q):=by
     unfold getA;rw[List.getD_eq_getElem?_getD,List.getElem?_eq_getElem k6];rfl
    have h5:kidT all (q:Int)=getA all q:=by
     unfold kidT;rw[if_neg (by omega),Int.toNat_natCast]
    have hI:Hid _:=⟨hq _ h5⟩
    generalize getA all q=ga at k7 hI;obtain⟨⟨gk,gn,gs⟩,ge⟩:=ga;clear hq h5;cases st with
    |true =>
     clear hz
     (have x0_:=@Ans.c.eq_1;(refine gA ?_);all_goals clear x0_)
     refine zD (j+1,true,kl++[⟨⟨gk,gn,gs⟩,ge⟩]) (by first|omega|(dsimp only;omega)) ⟨by first|omega|(dsimp only;omega),by simp,hI.h⟩ (by(have X_:=c5 @mapA @AZero.eq_1 @Zero.eq_1 @Ans.c.eq_1 @Int.toNat_natCast;exact aTdX))
    |false =>
     have hZ:j=0:=by simpa using hz
     subst hZ;obtain rfl:kl=[]:=List.length_eq_zero_iff.1 hu;have hG:ks[0]?=some _:=hG;clear hz hu hX hY
     (have x0_:=@Ans.c.eq_1;(refine gA ?_);all_goals clear x0_)
     refine zD (1,true,[⟨⟨gk,gn,gs⟩,ge⟩]) (by first|omega|(dsimp only;omega)) ⟨by first|omega|(dsimp only;omega),rfl,hI.h⟩ (by(have X_:=c5 @mapA @AZero.eq_1 @Zero.eq_1 @Ans.c.eq_1 @Int.toNat_natCast;exact aTdX))
 have hd:decide ((j:Int)<ks.length)=false:=by simpa using hL
 have kc:j=ks.length:=by omega
 have kd:zAa all ks=kl:=by
  unfold zAa;rw[if_neg hQ.h,hy,kc,List.take_length]
 obtain rfl:st=true:=by
  rw[hz];have:ks.length≠0:=fun h=>hQ.h (List.length_eq_zero_iff.1 h)
  simp;omega
 have ky:kl≠[]:=by
  intro h;rw[h] at hy;have:=congrArg List.length hy;have h3:ks.length≠0:=fun h=>hQ.h (List.length_eq_zero_iff.1 h)
  simp at this;omega
 dsimp only at hP hR;rw[kd] at hP;rw[kd] at hR;obtain⟨g,gl,rfl⟩:=List.exists_cons_of_ne_nil ky;have mh:gl.length<9223372036854775807:=by
  have h1:=congrArg List.length hy;have h2:=ka.h;dsimp only at h2;simp at h1;omega
 clear hy hz kd ky kc;have hU:AOK g:=hP.h g (by simp);have mi:decide (((gl.length:Int)+1)<1)=false:=by simp;omega
 have k8:decide (((gl.length+1:Nat):Int)<1)=false:=by simp;omega
 obtain⟨⟨gk,gn,gs⟩,ge⟩:=g
 (refine gA ?_)
 (refine aI ?_)
 rcases kr.h with h1|⟨s,h1⟩|⟨s,t,h1⟩
 ·rw[h1] at hh;have hk:=hR.h.1 h1;simp only[opsT,jW,List.map_nil] at hh;clear h1
  by_cases o1:op=1
  ·have e1:(op==1)=true:=by simp [o1]
   obtain rfl:R=⟨⟨4,1,[]⟩,0⟩:=by rw[hk];simp [zA2,o1]
   clear o1 hk
   (have x0_:=@Ans.c.eq_1;(repeat' first|refine gA ?_|refine gT ?_ ?_<;>intro hv<;>try cases hv;done|refine aI ?_|fail);all_goals clear x0_)
   (refine aK ?_ ?_)
   ·rfl
   rfl
  have e1:(op==1)=false:=by simpa using o1
  by_cases o8:op=8
  ·have e8:(op==8)=true:=by simp [o8]
   obtain rfl:R=NotU (⟨⟨gk,gn,gs⟩,ge⟩:Ans):=by rw[hk];simp only[zA2,o8];rfl
   have hn:=zJt gk gn gs ge;generalize NotU (⟨⟨gk,gn,gs⟩,ge⟩:Ans)=q at hn ⊢;obtain⟨⟨rk,rn,rs⟩,re⟩:=q;clear o1 o8 hk
   (have x0_:=@Ans.c.eq_1;(repeat' first|refine gA ?_|refine gT ?_ ?_<;>intro hv<;>try cases hv;done|refine aI ?_|fail);all_goals clear x0_)
   (refine aK ?_ ?_)
   ·rfl
   rfl
  have e8:(op==8)=false:=by simpa using o8
  by_cases o9:op=9
  ·have e9:(op==9)=true:=by simp [o9]
   obtain rfl:R=gl.foldl uL (⟨⟨gk,gn,gs⟩,ge⟩:Ans):=by rw[hk];simp only[zA2,o9];rfl
   have ku:Hid _:=⟨hP.h⟩
   clear o1 o8 o9 hk
   (have x0_:=@Ans.c.eq_1;(refine gA ?_);all_goals clear x0_)
   (refine aI ?_)
   (have x0_:=@Ans.c.eq_1;have x1_:=@Ab.slice.eq_def;have x2_:=@Ab.bound.eq_1;have x3_:=@Ab.bound.eq_2;have x4_:=@Option.getD_none.{0};have x5_:=@Nat.add_sub_cancel;have x6_:=@Nat.sub_self;have x7_:=@Int.natCast_nonneg;(repeat' first|refine gA ?_|refine gT ?_ ?_<;>intro hv<;>try cases hv;done|fail);all_goals clear x0_ x1_ x2_ x3_ x4_ x5_ x6_ x7_)
   refine yE (α:=Nat×Ans) (fun a=>⟨[(8,.box 0 0),(18,.box 1 0),(127,.hsub 2 0 1 gl.length),(128,.t (.int .i64 gl.length)),(129,.t (.int .i64 a.1))],[.box [.t (.int .u8 0),.t (.int .i64 0),.t (.str []),.t (.int .i64 0)],.box [.t (.int .u8 a.2.v.k),.t (.int .i64 a.2.v.n),.t (.str a.2.v.s),.t (.int .i64 a.2.e)],.arr 4 0 false ([.int .u8 gk,.int .i64 gn,.str gs,.int .i64 ge]::gl.map Ans.c)]⟩)
    (fun a=>gl.length - a.1) (fun a=>a.1≤gl.length∧a.2=(gl.take a.1).foldl uL (⟨⟨gk,gn,gs⟩,ge⟩:Ans)) (0,(⟨⟨gk,gn,gs⟩,ge⟩:Ans)) (by(have X_:=c3 @AZero.eq_1 @Zero.eq_1 @Ans.c.eq_1;exact aTdX)) ⟨Nat.zero_le _,rfl⟩ ?_
   rintro⟨j,cur⟩ ⟨hj,hC⟩
   try dsimp only at hj hC
   have ke:AOK cur:=by rw[hC];exact zMT _ _ hU
   by_cases hL:j<gl.length
   ·have k4:=wI64 j (by omega);have hG:gl[j]?=some gl[j]:=List.getElem?_eq_getElem hL;have kv:decide ((j:Int)<gl.length)=true:=by simpa using hL
    have hS:gl.take (j+1)=gl.take j++[gl[j]]:=by rw[List.take_add_one,hG];rfl
    have kg:AOK gl[j]:=ku.h _ (List.mem_cons_of_mem _ (List.getElem_mem hL));generalize gl[j]=x at hG hS kg;have hH:(gl.take (j+1)).foldl uL (⟨⟨gk,gn,gs⟩,ge⟩:Ans)=uL cur x:=by rw[hS,List.foldl_append,← hC];rfl
    have hJ:=zMs cur x ke kg;have kh:nth (gl.map Ans.c) j=some x.c:=by rw[yP,List.getElem?_map,hG];rfl
    generalize uL cur x=nx at hH hJ;have hV:Hid _:=⟨hH⟩
    clear hH hC hS ke kg hU;obtain⟨⟨ck,cn,cs⟩,ce⟩:=cur;obtain⟨⟨xk,xn,xs⟩,xe⟩:=x;obtain⟨⟨yk,yn,ys⟩,ye⟩:=nx;dsimp only[Ans.c] at hJ kh;have mj:(0:Int)≤(j:Int):=Int.natCast_nonneg j;have kc:(j:Int)<(gl.length:Int):=by omega
    have ml:(1+gl.length≤gl.length+1):=by omega
    (have x0_:=@Ans.c.eq_1;have x1_:=@Nat.le_refl;(refine gA ?_);all_goals clear x0_ x1_)
    refine zD (j+1,⟨⟨yk,yn,ys⟩,ye⟩) (by first|omega|(dsimp only;omega)) ⟨by first|omega|(dsimp only;omega),hV.h.symm⟩ (by(have X_:=c3 @AZero.eq_1 @Zero.eq_1 @Ans.c.eq_1;exact aTdX))
   have kv:decide ((j:Int)<gl.length)=false:=by simpa using hL
   rw[List.take_of_length_le (by omega)] at hC;rw[← hC];clear hC ke hU;obtain⟨⟨ck,cn,cs⟩,ce⟩:=cur
   (have x0_:=@Ans.c.eq_1;(refine gA ?_);all_goals clear x0_)
   (refine aK ?_ ?_)
   ·rfl
   rfl
  have e9:(op==9)=false:=by simpa using o9
  obtain rfl:R=⟨Zero,2⟩:=by rw[hk];simp [zA2,o1,o8,o9]
  clear o1 o8 o9 hk
  (have x0_:=@Ans.c.eq_1;(repeat' first|refine gA ?_|refine gT ?_ ?_<;>intro hv<;>try cases hv;done|refine aI ?_|fail);all_goals clear x0_)
  (refine aK ?_ ?_)
  ·rfl
  rfl
 ·rw[h1] at hh;have hk:=hR.h.2.1 s h1;simp only[opsT,jW,List.map_cons,List.map_nil,Sl.t] at hh;obtain⟨L,hA,hE⟩:=h7.h s;dsimp only at hA hE hk;rw[← hk] at hE;clear h1 hk;clear hR;obtain⟨⟨rk,rn,rs⟩,re⟩:=R;dsimp only at hE
  (have x0_:=@Ans.c.eq_1;(repeat' first|refine gA ?_|refine gT ?_ ?_<;>intro hv<;>try cases hv;done|refine aI ?_|fail);all_goals clear x0_)
  (refine aK ?_ ?_)
  ·rfl
  rfl
 rw[h1] at hh;have hk:=hR.h.2.2 s t h1;simp only[opsT,jW,List.map_cons,List.map_nil,Sl.t] at hh;obtain⟨L,hA,hE⟩:=h7.h s;obtain⟨M,hB,hF⟩:=km.h t;have pa:=ko.h s;have pb:=kp.h t;dsimp only at hA hE hB hF pa pb hk;generalize vG (vJ s (al.map Node.s)) ⟨sk,sn,ss⟩ vars=ea at hE pa hk;generalize vG (vJ t (bl.map Node.s)) ⟨sk,sn,ss⟩ vars=eb at hF pb hk;have hJ:=zHp ea eb pa pb;rw[← hk] at hJ;clear h1 hk pa pb;clear hR;obtain⟨⟨rk,rn,rs⟩,re⟩:=R;obtain⟨⟨eak,ean,eas⟩,eae⟩:=ea;obtain⟨⟨ebk,ebn,ebs⟩,ebe⟩:=eb;dsimp only at hE hF hJ
 (have x0_:=@Ans.c.eq_1;(repeat' first|refine gA ?_|refine gT ?_ ?_<;>intro hv<;>try cases hv;done|refine aI ?_|fail);all_goals clear x0_)
 (refine aK ?_ ?_)
 ·rfl
 rfl
def zM3(ts:List Test)(self:Val)(vars:List Bind)(hx:∀x ∈ ts,TOK x)(hs:VOK self)(hv:∀b ∈ vars,VOK b.v):∀i,∀a ∈ qS (ts.map Test.s) self vars i,AOK a
 |0,a,h=>by cases h
 |i+1,a,h=>by
  rcases List.mem_append.1 h with h|h
  ·exact zM3 ts self vars hx hs hv i a h
  rw[List.mem_singleton.1 h,List.getElem?_map];cases hi:ts[i]? with
  |none=>exact yX
  |some x=>exact zZd x _ self vars (hx x (List.mem_of_getElem? hi)) (zM3 ts self vars hx hs hv i) hs hv
def zFX (nl cl:Bool) (t:List Test) (self:Val) (vnl vcl:Bool) (vars:List Bind) (hl:t.length<4294967000) (hx:∀x ∈ t,TOK x) (hs:VOK self) (hv:∀b ∈ vars,VOK b.v) (hO:vars.length<9223372036854775808) :
  Om CC 12 [.t (.sl nl cl (t.map Test.c)),.t (.agg [.int .u8 self.k,.int .i64 self.n,.str self.s]),.t (.sl vnl vcl (vars.map Bind.c))] [] =
   some (.val (.tup [.t (.agg [.int .u8 (xH (t.map Test.s) self vars).v.k,.int .i64 (xH (t.map Test.s) self vars).v.n,.str (xH (t.map Test.s) self vars).v.s]),.t (.int .i64 (xH (t.map Test.s) self vars).e)]),[]):=by
 refine zL yDO rfl ?_;have k9:Hid _:=⟨zM3 t self vars hx hs hv⟩
 have h6:Hid _:=⟨fun(x:Test) (h:x ∈ t) (all:List Ans) (b:Bool) (h2:∀a ∈ all,AOK a) (h3:all.length<4294967295)=>zYX x all b self vnl vcl vars (hx x h) h2 h3 hs hv hO⟩
 have ki:Hid _:=⟨hl⟩
 unfold xH;rw[List.length_map];have kj:Hid _:=⟨fun i (x:Test) (h:t[i]?=some x)=>(show qS (t.map Test.s) self vars (i+1)=qS (t.map Test.s) self vars i++[qR x.s (qS (t.map Test.s) self vars i) self vars] by rw[qS,List.getElem?_map,h];rfl)⟩
 generalize hE:qS (t.map Test.s) self vars=N at *;have h0:Hid (N 0=[]):=⟨by rw[← hE];rfl⟩
 have ma:Hid _:=⟨fun i=>(show (N i).length=i by rw[← hE];exact zHO _ _ _ i)⟩
 clear hE hx hs hv hl;obtain⟨sk,sn,ss⟩:=self
 (have F_:=c5 zF zG zP zE (c5 zC zB zAg zO (c5 zK zR yV zAh (c5 zEb zX3 zM yR (c3 zI yH0 yHx))));show W CC 0 33 (zA 12) _ ⟨[(0,_),(1,_),(2,_)],[]⟩ _)
 (refine gA ?_)
 refine yE (α:=Nat×Bool×List Ans×Ans) (fun a=>match a.2.1 with
   |true=>⟨[(2,.t (.sl vnl vcl (vars.map Bind.c))),(4,.box 0 0),(6,.box 1 0),(8,.box 2 0),(9,.hs 3 0),(13,.t (.sl nl cl (t.map Test.c))),(14,.t (.int .i64 t.length)),(15,.t (.int .i64 a.1))],[.box [.t (.int .u8 sk),.t (.int .i64 sn),.t (.str ss)],.box [.t (.int .u8 0),.t (.int .i64 0),.t (.str [])],.box [.t (.int .u8 a.2.2.2.v.k),.t (.int .i64 a.2.2.2.v.n),.t (.str a.2.2.2.v.s),.t (.int .i64 a.2.2.2.e)],.arr 4 0 false (a.2.2.1.map Ans.c)]⟩
   |false=>⟨[(2,.t (.sl vnl vcl (vars.map Bind.c))),(4,.box 0 0),(6,.box 1 0),(8,.box 2 0),(9,.t (.sl true true [])),(13,.t (.sl nl cl (t.map Test.c))),(14,.t (.int .i64 t.length)),(15,.t (.int .i64 a.1))],[.box [.t (.int .u8 sk),.t (.int .i64 sn),.t (.str ss)],.box [.t (.int .u8 0),.t (.int .i64 0),.t (.str [])],.box [.t (.int .u8 a.2.2.2.v.k),.t (.int .i64 a.2.2.2.v.n),.t (.str a.2.2.2.v.s),.t (.int .i64 a.2.2.2.e)]]⟩)
  (fun a=>t.length - a.1) (fun a=>a.1≤t.length∧a.2.1=decide (0<a.1)∧a.2.2.1=N a.1∧a.2.2.2=zCn (N a.1))
  (0,false,[],⟨Zero,2⟩) (by(have X_:=c2 @Zero.eq_1 @Ans.c.eq_1;exact aTdX)) ⟨Nat.zero_le _,rfl,h0.h.symm,by rw[h0.h];rfl⟩ ?_
 rintro⟨i,st,all,last⟩ ⟨hi,hz,hm,hD⟩
 try dsimp only at hi hz hm hD
 have hM:all.length=i:=by rw[hm];exact ma.h i
 by_cases h8:i<t.length
 ·have hw:IntKind.i64.wrap ((i:Int)+1)=((i+1:Nat):Int):=by
   have:=ki.h;rw[wrap64]<;>omega
  have he:t[i]?=some t[i]:=List.getElem?_eq_getElem h8;have hd:decide ((i:Int)<t.length)=true:=by simpa using h8
  have hW:=List.getElem_mem h8;generalize t[i]=x at he hW;have hN:=kj.h i x he;have hc:=fun b=>h6.h x hW all b (by rw[hm];exact k9.h i) (by have:=ki.h;omega)
  rw[← hm] at hN;have hY:decide (i+1<4294967296)=true:=by
   have:=ki.h;simp only[decide_eq_true_eq];omega
  have hX:lens 4 (all.map Ans.c)=true:=qM Ans.c 4 (fun a=>rfl) all;generalize qR x.s all ⟨sk,sn,ss⟩ vars=R at hN hc;obtain⟨⟨rk,rn,rs⟩,re⟩:=R;obtain⟨⟨lk,ln,ls⟩,le⟩:=last;have h9:Hid _:=⟨hN⟩
  clear hN hD hW;simp only[Test.c,Sl.t] at hc;cases st with
  |true =>
   have hc:=hc false;clear hz hm
   (refine gA ?_)
   refine zD (i+1,true,all++[⟨⟨rk,rn,rs⟩,re⟩],⟨⟨rk,rn,rs⟩,re⟩) (by first|omega|(dsimp only;omega)) ⟨by first|omega|(dsimp only;omega),by simp,h9.h.symm,by rw[h9.h];exact(zG2 _ _).symm⟩ (by(have X_:=c3 @mapA @AZero.eq_1 (c2 @Zero.eq_1 @Ans.c.eq_1);exact aTdX))
  |false =>
   have hc:=hc true;have mb:i=0:=by simpa using hz
   obtain rfl:all=[]:=List.length_eq_zero_iff.1 (by omega);subst mb;clear hz hm hX hY hM;simp only[List.map_nil] at hc
   (refine gA ?_)
   refine zD (1,true,[⟨⟨rk,rn,rs⟩,re⟩],⟨⟨rk,rn,rs⟩,re⟩) (by first|omega|(dsimp only;omega)) ⟨by first|omega|(dsimp only;omega),rfl,h9.h.symm,by have:=h9.h;simp only[List.nil_append] at this;rw[this];rfl⟩ (by(have X_:=c3 @mapA @AZero.eq_1 (c2 @Zero.eq_1 @Ans.c.eq_1);exact aTdX))
 have hd:decide ((i:Int)<t.length)=false:=by simpa using h8
 have kz:i=t.length:=by omega
 have k0:zCn (N t.length)=last:=by rw[hD,kz]
 rw[k0];clear k0 hm hD hz hM kz;obtain⟨⟨lk,ln,ls⟩,le⟩:=last;cases st with
 |true =>
  (have x0_:=@Ans.c.eq_1;(refine gA ?_);all_goals clear x0_)
  (refine aK ?_ ?_)
  ·rfl
  rfl
 |false =>
  (have x0_:=@Ans.c.eq_1;(refine gA ?_);all_goals clear x0_)
  (refine aK ?_ ?_)
  ·rfl
  rfl
def zKR (nl cl:Bool) (t:List Test) (self:Val) (vnl vcl:Bool) (vars:List Bind) (hl:t.length<4294967000) (hx:∀x ∈ t,TOK x) (hs:VOK self) (hv:∀b ∈ vars,VOK b.v) (hO:vars.length<9223372036854775808) :
  Om CC 11 [.t (.sl nl cl (t.map Test.c)),.t (.agg [.int .u8 self.k,.int .i64 self.n,.str self.s]),.t (.sl vnl vcl (vars.map Bind.c))] [] =
   some (.val (.t (.bool (jK (xH (t.map Test.s) self vars)))),[]):=by
 refine zL yDy rfl ?_;have hc:=zFX nl cl t self vnl vcl vars hl hx hs hv hO;have hp:=zUd (xH (t.map Test.s) self vars);generalize xH (t.map Test.s) self vars=R at hc hp ⊢;generalize jK R=q at hp ⊢;clear hx hs hv hl hO;obtain⟨sk,sn,ss⟩:=self
 (have F_:=c5 zF zG zP zE (c5 zC zB zAg zO (c5 zK zR yV zAh (c5 zM yR zI yHz (c2 zDe yIo))));show W CC 0 14 (zA 11) _ ⟨[(0,_),(1,_),(2,_)],[]⟩ _)
 (refine gA ?_)
 exact⟨by kernel_rfl,.t (.bool q),by kernel_rfl,by kernel_rfl⟩
def zVx(v:Val):∃x:Val,Om CC 88 [.t (.agg [.int .u8 v.k,.int .i64 v.n,.str v.s])] []=some (.val (.t (.agg [.int .u8 x.k,.int .i64 x.n,.str x.s])),[])∧(TB ⟨x,0⟩):=by
 refine zJ zTR rfl ?_
 (have F_:=xaV;show W CC 0 11 (zA 88) _ ⟨[(0,_)],[]⟩ _)
 (repeat' first|refine gA ?_|refine gT ?_ ?_<;>intro hv|fail)
 all_goals refine aJ ?_<;>(first|exact⟨Zero,⟨rfl,rfl⟩,zB7⟩|exact⟨uF _,⟨rfl,rfl⟩,zKl _⟩)
def yD9(v:Val):TB ⟨NotV v,0⟩:=by
 obtain⟨x,hx,ht⟩:=zVx v;have h:=(zGI v).symm.trans hx;generalize NotV v=y at h;obtain⟨k,n,s⟩:=y;obtain⟨k',n',s'⟩:=x;cases h;exact ht
def zP0(a:Ans):∃x:Ans,Om CC 86 [.t (.agg [.int .u8 a.v.k,.int .i64 a.v.n,.str a.v.s,.int .i64 a.e])] []=some (.val (.t (.agg [.int .u8 x.v.k,.int .i64 x.v.n,.str x.v.s,.int .i64 x.e])),[])∧(TB a→x=a):=by
 refine zJ zOJ rfl ?_
 (have F_:=xaZ;show W CC 0 20 (zA 86) _ ⟨[(0,_)],[]⟩ _)
 obtain⟨⟨k,n,s⟩,e⟩:=a
 (repeat' first|refine gA ?_|refine gT ?_ ?_<;>intro hv|fail)
 all_goals refine aJ ?_<;>(first|exact⟨⟨⟨k,n,s⟩,e⟩,⟨rfl,rfl⟩,fun _=>rfl⟩|exact⟨⟨Zero,8⟩,⟨rfl,rfl⟩,fun h=>absurd h.2 (by clear F_;simp_all [VT,VF,VZ])⟩)
def zKi{a:Ans}(h:TB a):zBM a=a:=by
 obtain⟨x,hx,ht⟩:=zP0 a;have:=ht h;subst this;obtain⟨⟨k,n,s⟩,e⟩:=x;have h:=(zBt k n s e).symm.trans hx;generalize zBM ⟨⟨k,n,s⟩,e⟩=y at h;obtain⟨⟨k',n',s'⟩,e'⟩:=y;cases h
 rfl
def zTc(a:Ans)(ha:TB a):∃x:Ans,Om CC 43 [.t (.agg [.int .u8 a.v.k,.int .i64 a.v.n,.str a.v.s,.int .i64 a.e])] []=some (.val (.t (.agg [.int .u8 x.v.k,.int .i64 x.v.n,.str x.v.s,.int .i64 x.e])),[])∧(TB x):=by
 refine zJ zPb rfl ?_
 (have F_:=c5 zF zE zC zB (c5 zR zEb zR0 zMA zOk);show W CC 0 13 (zA 43) _ ⟨[(0,_)],[]⟩ _)
 obtain⟨⟨k,n,s⟩,e⟩:=a;have ht:=zBt k n s e;rw[zKi ha] at ht;have hn:=zGI ⟨k,n,s⟩;dsimp only at ht hn;have pn2:Hid _:=⟨yD9 ⟨k,n,s⟩⟩
 generalize NotV ⟨k,n,s⟩=w at hn pn2;have mc:Hid _:=⟨ha⟩
 clear ha
 (repeat' first|refine gA ?_|refine gT ?_ ?_<;>intro hv|fail)
 all_goals refine aJ ?_<;>(first|exact⟨⟨⟨k,n,s⟩,e⟩,⟨rfl,rfl⟩,mc.h⟩|exact⟨⟨w,e⟩,⟨rfl,rfl⟩,pn2.h.1,pn2.h.2.elim (fun h=>absurd rfl h) .inr⟩|exact⟨⟨w,0⟩,⟨rfl,rfl⟩,pn2.h⟩)
def yEC{a:Ans}(h:TB a):TB (NotU a):=by
 obtain⟨x,hx,ht⟩:=zTc a h;obtain⟨⟨k,n,s⟩,e⟩:=a;have h:=(zJt k n s e).symm.trans hx;generalize NotU ⟨⟨k,n,s⟩,e⟩=y at h;obtain⟨⟨k',n',s'⟩,e'⟩:=y;obtain⟨⟨k2,n2,s2⟩,e2⟩:=x;cases h;exact ht
def zQI (f:Nat) (hb:yY Tryz.prog f=true) (mn:∀x,CC.prim f x=none) (F:Val→Val→Val) (hF:∀a b,VOK a→VOK b→Om CC f [.t (.sl false false [[.int .u8 a.k,.int .i64 a.n,.str a.s],[.int .u8 b.k,.int .i64 b.n,.str b.s]])] []=some (.val (.t (.agg [.int .u8 (F a b).k,.int .i64 (F a b).n,.str (F a b).s])),[]))
  (a b:Ans) (ends:Bool) (ha:TB a) (kk:TB b) (r:Ans) (hr:r=if a.e≠0∨a.v=uF ends then a else if b.e≠0 then b else ⟨F a.v b.v,0⟩) :
  Om CC 41 [.t (.agg [.int .u8 a.v.k,.int .i64 a.v.n,.str a.v.s,.int .i64 a.e]),.t (.agg [.int .u8 b.v.k,.int .i64 b.v.n,.str b.v.s,.int .i64 b.e]),.t (.bool ends),.t (.fn f)] []=some (.val (.t (.agg [.int .u8 r.v.k,.int .i64 r.v.n,.str r.v.s,.int .i64 r.e])),[]):=by
 refine zL zVV rfl ?_
 (have F_:=c5 zF zP zE zC (c5 zB zR zEb zHX (c5 xW zXV zMA zEa @zAW));show W CC 0 38 (zA 41) _ ⟨[(0,_),(1,_),(2,_),(3,_)],[]⟩ _)
 obtain⟨⟨tk,tn,ts⟩,te⟩:=a;obtain⟨⟨uk,un,us⟩,ue⟩:=b;have ht:=zBt tk tn ts te;have k1:=zBt uk un us ue;rw[zKi ha] at ht;rw[zKi kk] at k1;have hf:=hF _ _ ha.1 kk.1;clear hF ha kk;dsimp only at hr hf ht k1;have md:=qD ends;generalize uF ends=T at hr md;obtain⟨Tk,Tn,Ts⟩:=T
 by_cases h1:te=0
 ·by_cases h2:(⟨tk,tn,ts⟩:Val)=⟨Tk,Tn,Ts⟩
  ·have hd:decide ((⟨tk,tn,ts⟩:Val)=⟨Tk,Tn,Ts⟩)=true:=by simpa using h2
   rw[if_pos (.inr h2)] at hr;subst h1;clear h2;subst hr
   (refine gA ?_)
   all_goals refine aK ?_ ?_<;>(first|rfl)
  have hd:decide ((⟨tk,tn,ts⟩:Val)=⟨Tk,Tn,Ts⟩)=false:=by simpa using h2
  rw[if_neg (by simpa [h1] using h2)] at hr;subst h1;clear h2
  by_cases h3:ue=0
  ·rw[if_neg (by simpa using h3)] at hr;subst h3;subst hr
   (refine gA ?_)
   all_goals refine aK ?_ ?_<;>(first|rfl)
  rw[if_pos h3] at hr;have mo:(ue==0)=false:=by simpa using h3
  have me:(ue != 0)=true:=by simpa using h3
  clear h3;subst hr
  (refine gA ?_)
  all_goals refine aK ?_ ?_<;>(first|rfl)
 rw[if_pos (.inl h1)] at hr;have mq:(te==0)=false:=by simpa using h1
 have mf:(te != 0)=true:=by simpa using h1
 clear h1;subst hr
 (refine gA ?_)
 all_goals refine aK ?_ ?_<;>(first|rfl)
def anyV(a b:Val):Val:=if a=VT∨b=VT then VT else if a=VF∧b=VF then VF else VZ
def allV(a b:Val):Val:=if a=VF∨b=VF then VF else if a=VT∧b=VT then VT else VZ
def zJm{a:Val}(h:a=VT∨a=VF∨a=VZ):VOK a:=by
 rcases h with rfl|rfl|rfl
 ·exact zMV
 ·exact zO6
 exact jN
def yE0{a b:Val}(ha:a=VT∨a=VF∨a=VZ)(hb:b=VT∨b=VF∨b=VZ):Any2 a b=anyV a b:=by
 have key:Om CC 44 [.t (.sl false false [[.int .u8 a.k,.int .i64 a.n,.str a.s],[.int .u8 b.k,.int .i64 b.n,.str b.s]])] []=some (.val (.t (.agg [.int .u8 (anyV a b).k,.int .i64 (anyV a b).n,.str (anyV a b).s])),[]):=by
  rcases ha with rfl|rfl|rfl<;>rcases hb with rfl|rfl|rfl<;>exact vK (n:=2000) (by kernel_rfl)
 have h:=(zFd a b (zJm ha) (zJm hb)).symm.trans key;generalize Any2 a b=x at h;generalize anyV a b=y at h;obtain⟨k,n,s⟩:=x;obtain⟨k',n',s'⟩:=y;cases h
 rfl
def yG8{a b:Val}(ha:a=VT∨a=VF∨a=VZ)(hb:b=VT∨b=VF∨b=VZ):All2 a b=allV a b:=by
 have key:Om CC 42 [.t (.sl false false [[.int .u8 a.k,.int .i64 a.n,.str a.s],[.int .u8 b.k,.int .i64 b.n,.str b.s]])] []=some (.val (.t (.agg [.int .u8 (allV a b).k,.int .i64 (allV a b).n,.str (allV a b).s])),[]):=by
  rcases ha with rfl|rfl|rfl<;>rcases hb with rfl|rfl|rfl<;>exact vK (n:=2000) (by kernel_rfl)
 have h:=(zFi a b (zJm ha) (zJm hb)).symm.trans key;generalize All2 a b=x at h;generalize allV a b=y at h;obtain⟨k,n,s⟩:=x;obtain⟨k',n',s'⟩:=y;cases h
 rfl
def yFx{a b:Val}:TB ⟨allV a b,0⟩:=by
 unfold allV;split
 ·exact⟨zO6,.inr (.inr (.inl rfl))⟩
 split
 ·exact⟨zMV,.inr (.inl rfl)⟩
 exact⟨jN,.inr (.inr (.inr rfl))⟩
def zQ1{x y:Ans}(h:(some (Out.val (.t (.agg [.int .u8 x.v.k,.int .i64 x.v.n,.str x.v.s,.int .i64 x.e])),([]:Heap)):Option (Out×Heap))=some (.val (.t (.agg [.int .u8 y.v.k,.int .i64 y.v.n,.str y.v.s,.int .i64 y.e])),[])):x=y:=by
 obtain⟨⟨k,n,s⟩,e⟩:=x;obtain⟨⟨k',n',s'⟩,e'⟩:=y;cases h
 rfl
def zZe:uF true=VT:=zHZ true
def zYw:uF false=VF:=zHZ false
def zSJ{a b:Ans}(ha:TB a)(hb:TB b):uL a b=BA a b:=by
 have h:=(zMs a b ha.1 hb.1).symm.trans (zQI 44 zLy (fun x=>zX _ x (by decide)) Any2 zFd a b true ha hb _ rfl);rw[zQ1 h,zZe];unfold BA
 by_cases h1:a.e≠0∨a.v=VT
 ·rw[if_pos h1,if_pos h1]
 rw[if_neg h1,if_neg h1]
 by_cases h2:b.e≠0
 ·rw[if_pos h2,if_pos h2]
 rw[if_neg h2,if_neg h2];have ta:=ha.2.resolve_left (fun h=>h1 (.inl h));have tb:=hb.2.resolve_left h2;rw[yE0 ta tb];unfold anyV;have h3:a.v≠VT:=fun h=>h1 (.inr h)
 by_cases h4:b.v=VT
 ·rw[if_pos (.inr h4),if_pos h4]
 rw[if_neg (fun h=>h.elim h3 h4),if_neg h4];split<;>rfl
def zRx{a b:Ans}(ha:TB a)(hb:TB b):jP a b=if a.e≠0∨a.v=VF then a else if b.e≠0 then b else ⟨allV a.v b.v,0⟩:=by
 have h:=(zHp a b ha.1 hb.1).symm.trans (zQI 42 zJh (fun x=>zX _ x (by decide)) All2 zFi a b false ha hb _ rfl);rw[zQ1 h,zYw]
 by_cases h1:a.e≠0∨a.v=VF
 ·rw[if_pos h1,if_pos h1]
 rw[if_neg h1,if_neg h1]
 by_cases h2:b.e≠0
 ·rw[if_pos h2,if_pos h2]
 rw[if_neg h2,if_neg h2,yG8 (ha.2.resolve_left (fun h=>h1 (.inl h))) (hb.2.resolve_left h2)]
def zVg{a b:Ans}(ha:TB a)(hb:TB b):TB (jP a b):=by
 rw[zRx ha hb];split
 ·exact ha
 split
 ·exact hb
 exact yFx
def zRX(ns:List SNode)(x:SNode)(self:Val)(vars:List Bind):vG (ns++[x]) self vars=zDh (wN (ns++[x]) self vars ns.length) (ns++[x]) x self vars:=by
 unfold vG;rw[List.length_append,List.length_singleton,wN,zLT,List.getElem?_append_right (Nat.le_refl _),Nat.sub_self]
 rfl
def yIa(self:Val)(vars:List Bind)(op:Int)(l:List SNode)(ho:op=7∨op=8∨op=9∨op=10∨op=11∨op=12):TB (vG (vJ op l) self vars):=by
 have e:vJ op l=(l++[⟨3,Zero,[],[]⟩])++[⟨op,Zero,[],[(l.length:Int),(l.length:Int) - 1]⟩]:=by
  unfold vJ;rw[List.append_assoc];rfl
 rw[e,zRX];unfold zDh;have hl:(qF op Zero [] self vars).2=false:=by
  unfold qF;rw[if_neg (by omega),if_neg (by omega),if_neg (by omega)]
 dsimp only;rw[hl,if_neg (by decide)];exact zXf op _ _ ho
def zR7(self:Val)(vars:List Bind):SemOK (SemA self vars) where
 cmp:=fun op a ho=>yIa self vars op a ho
 all:=fun a b ha hb=>zVg ha hb
 any:=fun a b ha hb=>zSJ ha hb
 not:=fun a ha=>yEC ha
end Go.Ab
