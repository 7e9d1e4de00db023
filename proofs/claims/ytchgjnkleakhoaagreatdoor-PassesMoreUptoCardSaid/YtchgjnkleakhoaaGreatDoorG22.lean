/- Lemmas. -/
import Derived.Test.YtchgjnkleakhoaaGreatDoorG21
set_option maxRecDepth 1000000
set_option maxHeartbeats 40000000
set_option linter.all false
namespace Go.Ab
open Go.Proofs
attribute [local irreducible] W RW RR
def yHa{α:Type}(a:α)(l:List α):idx (a::l) (0:Int)=some a:=rfl
def yG4{α:Type}(a b:α)(l:List α):idx (a::b::l) (1:Int)=some b:=rfl
def le00:((0:Int)≤0)=True:=by simp
def le01:((0:Int)≤1)=True:=by simp
def lt01:((0:Int)<((1:Nat):Int))=True:=by simp
def lt02:((0:Int)<((2:Nat):Int))=True:=by simp
def lt12:((1:Int)<((2:Nat):Int))=True:=by simp
def ltS(n:Nat):((0:Int)<((n+1:Nat):Int))=True:=by simp
def yG8{α:Type}(a:α)(l:List α)(j:Nat):nth (a::l) (1+j)=nth l j:=by rw[Nat.add_comm];rfl
def le11:((1:Int)≤((1:Nat):Int))=True:=by simp
def le1S(n:Nat):((1:Int)≤((n+1:Nat):Int))=True:=by simp;omega
def leZ(n:Nat):((n:Int)≤(n:Int))=True:=by simp
def toN0:Int.toNat 0=0:=rfl
def toN1:Int.toNat 1=1:=rfl
def zX8 (x:Test) (all:List Ans) (b:Bool) (self:Val) (vnl vcl:Bool) (vars:List Bind) (hx:TOK x) (hall:∀a ∈ all,AOK a) (hal:all.length<4294967295) (hs:VOK self) (hv:∀b ∈ vars,VOK b.v) (hvl:vars.length<9223372036854775808) :
  Om CC 36 [.t (.agg x.c),.t (.sl b b (all.map Ans.c)),.t (.agg [.int .u8 self.k,.int .i64 self.n,.str self.s]),.t (.sl vnl vcl (vars.map Bind.c))] [] =
   some (.val (.t (.agg [.int .u8 (kZ x.s all self vars).v.k,.int .i64 (kZ x.s all self vars).v.n,.str (kZ x.s all self vars).v.s,.int .i64 (kZ x.s all self vars).e])),[]):=by
 refine zK yFE rfl ?_;have hparts:=zWJ x;have hmA:Hid _:=⟨fun s=>zQ4 s x.a self vnl vcl vars hx.a hs hv hvl⟩
 have hmB:Hid _:=⟨fun s=>zQ4 s x.b self vnl vcl vars hx.b hs hv hvl⟩
 have hpA:Hid _:=⟨fun s=>zN2 s x.a self vars hx.a hs hv⟩
 have hpB:Hid _:=⟨fun s=>zN2 s x.b self vars hx.b hs hv⟩
 have hkp:Hid _:=⟨zQE all hall x.kids.l⟩
 have hx2:Hid _:=⟨hx.kids⟩
 have hR:Hid _:=⟨zPQ x all self vars⟩
 have hpc:Hid _:=⟨zJz x⟩
 generalize kZ x.s all self vars=R at hR ⊢;clear hx hall hs hv;obtain⟨op,⟨anl,acl,al⟩,⟨bnl,bcl,bl⟩,low,high,⟨knl,kcl,ks⟩,line,col⟩:=x;obtain⟨sk,sn,ss⟩:=self;simp only[Test.c,Sl.t] at hparts;have w0:IntKind.i64.wrap (0+1)=1:=by decide
 have w1:IntKind.i64.wrap (1+1)=2:=by decide
 have d0:decide ((0:Int)<1)=true:=by decide
 have d1:decide ((1:Int)<1)=false:=by decide
 have d2:decide ((0:Int)<2)=true:=by decide
 have d3:decide ((1:Int)<2)=true:=by decide
 have d4:decide ((2:Int)<2)=false:=by decide
 have d5:decide ((0:Int)<0)=false:=by decide
 have z00:decide ((0:Int)<((0:Nat):Int))=false:=by decide
 have f01:((0:Int)==1)=false:=by decide
 have f02:((0:Int)==2)=false:=by decide
 have f11:((1:Int)==1)=true:=by decide
 have f21:((2:Int)==1)=false:=by decide
 have f22:((2:Int)==2)=true:=by decide
 (have F_:=c5 zF zG zQ zE (c5 zD zI uH zB (c5 vV zO zL yL (c5 zN zU zCo zSG (c5 zOK zUU zIE yGN (c5 yG3 yGR yGZ yHx (c5 yGv @yHa @yG4 @le00 (c5 @le01 @lt01 @lt02 @lt12 (c5 @ltS @toN0 @toN1 @le11 (c3 @le1S @leZ @yG8)))))))));show W CC 0 139 (zA 36) _ ⟨[(0,_),(1,_),(2,_),(3,_)],[]⟩ _)
 by_cases hks:ks=[]
 ·subst hks;have hkT:zAl all []=[AZero]:=rfl;have hR2:Hid _:=⟨hR.h⟩
  try dsimp only at hkp hR
  (refine gA ?_)
  rw[hkT] at hkp;rw[hkT] at hR;clear hR2
  (refine aI ?_)
  (refine gA ?_)
  (refine aI ?_)
  (repeat' first|refine gA ?_|refine gT ?_ ?_<;>intro hv<;>try cases hv;done|fail)
  (refine aI ?_)
  rcases hpc.h with h1|⟨s,h1⟩|⟨s,t,h1⟩
  ·rw[h1] at hparts;have hRe:=hR.h.1 h1;simp only[opsT,zAu,List.map_nil] at hparts;clear h1
   by_cases o1:op=1
   ·have e1:(op==1)=true:=by simp [o1]
    obtain rfl:R=⟨⟨4,1,[]⟩,0⟩:=by rw[hRe];simp [zBe,o1]
    clear o1 hRe
    (have x0_:=@Ans.c.eq_1;(repeat' first|refine gA ?_|refine gT ?_ ?_<;>intro hv<;>try cases hv;done|refine aI ?_|fail);all_goals clear x0_)
    (refine aK ?_ ?_)
    ·rfl
    rfl
   have e1:(op==1)=false:=by simpa using o1
   by_cases o8:op=8
   ·have e8:(op==8)=true:=by simp [o8]
    obtain rfl:R=NotU (⟨⟨0,0,[]⟩,0⟩:Ans):=by rw[hRe];simp only[zBe,o8];rfl
    have hn:=zIX 0 0 [] 0;generalize NotU (⟨⟨0,0,[]⟩,0⟩:Ans)=q at hn ⊢;obtain⟨⟨rk,rn,rs⟩,re⟩:=q;clear o1 o8 hRe
    (have x0_:=@Ans.c.eq_1;(repeat' first|refine gA ?_|refine gT ?_ ?_<;>intro hv<;>try cases hv;done|refine aI ?_|fail);all_goals clear x0_)
    (refine aK ?_ ?_)
    ·rfl
    rfl
   have e8:(op==8)=false:=by simpa using o8
   by_cases o9:op=9
   ·have e9:(op==9)=true:=by simp [o9]
    obtain rfl:R=([]:List Ans).foldl uW (⟨⟨0,0,[]⟩,0⟩:Ans):=by rw[hRe];simp only[zBe,o9];rfl
    have hkk:Hid _:=⟨hkp.h⟩
    clear o1 o8 o9 hRe
    (have x0_:=@Ans.c.eq_1;(repeat' first|refine gA ?_|refine gT ?_ ?_<;>intro hv<;>try cases hv;done|fail);all_goals clear x0_)
    (refine aI ?_)
    (have x0_:=@Ans.c.eq_1;have x1_:=@Ab.slice.eq_def;have x2_:=@Ab.bound.eq_1;have x3_:=@Ab.bound.eq_2;have x4_:=@Option.getD_none.{0};have x5_:=@Nat.add_sub_cancel;have x6_:=@Nat.sub_self;have x7_:=@Int.natCast_nonneg;(repeat' first|refine gA ?_|refine gT ?_ ?_<;>intro hv<;>try cases hv;done|fail);all_goals clear x0_ x1_ x2_ x3_ x4_ x5_ x6_ x7_)
    (refine aI ?_)
    (have x0_:=@Ans.c.eq_1;(refine gA ?_);all_goals clear x0_)
    (refine aK ?_ ?_)
    ·rfl
    rfl
   have e9:(op==9)=false:=by simpa using o9
   obtain rfl:R=⟨Zero,2⟩:=by rw[hRe];simp [zBe,o1,o8,o9]
   clear o1 o8 o9 hRe
   (have x0_:=@Ans.c.eq_1;(repeat' first|refine gA ?_|refine gT ?_ ?_<;>intro hv<;>try cases hv;done|refine aI ?_|fail);all_goals clear x0_)
   (refine aK ?_ ?_)
   ·rfl
   rfl
  ·rw[h1] at hparts;have hRe:=hR.h.2.1 s h1;simp only[opsT,zAu,List.map_cons,List.map_nil,Sl.t] at hparts;obtain⟨L,hA,hE⟩:=hmA.h s;dsimp only at hA hE hRe;rw[← hRe] at hE;clear h1 hRe;clear hR;obtain⟨⟨rk,rn,rs⟩,re⟩:=R;dsimp only at hE
   (have x0_:=@Ans.c.eq_1;(repeat' first|refine gA ?_|refine gT ?_ ?_<;>intro hv<;>try cases hv;done|refine aI ?_|fail);all_goals clear x0_)
   (refine aK ?_ ?_)
   ·rfl
   rfl
  rw[h1] at hparts;have hRe:=hR.h.2.2 s t h1;simp only[opsT,zAu,List.map_cons,List.map_nil,Sl.t] at hparts;obtain⟨L,hA,hE⟩:=hmA.h s;obtain⟨M,hB,hF⟩:=hmB.h t;have pa:=hpA.h s;have pb:=hpB.h t;dsimp only at hA hE hB hF pa pb hRe;generalize wL (vA s (al.map Node.s)) ⟨sk,sn,ss⟩ vars=ea at hE pa hRe;generalize wL (vA t (bl.map Node.s)) ⟨sk,sn,ss⟩ vars=eb at hF pb hRe;have hbo:=zHs ea eb pa pb;rw[← hRe] at hbo;clear h1 hRe pa pb;clear hR;obtain⟨⟨rk,rn,rs⟩,re⟩:=R;obtain⟨⟨eak,ean,eas⟩,eae⟩:=ea;obtain⟨⟨ebk,ebn,ebs⟩,ebe⟩:=eb;dsimp only at hE hF hbo
  (have x0_:=@Ans.c.eq_1;(repeat' first|refine gA ?_|refine gT ?_ ?_<;>intro hv<;>try cases hv;done|refine aI ?_|fail);all_goals clear x0_)
  (refine aK ?_ ?_)
  ·rfl
  rfl
 have hks2:Hid _:=⟨hks⟩
 clear hks
 (refine gA ?_)
 refine zY (α:=Nat×Bool×List Ans) (fun a=>match a.2.1 with
  |true=>⟨[(1,.t (.sl b b (all.map Ans.c))),(3,.t (.sl vnl vcl (vars.map Bind.c))),(4,.box 0 0),(6,.box 1 0),(8,.box 2 0),(9,.hs 3 0),(22,.t (.sl knl kcl (ks.map intC))),(23,.t (.int .i64 ks.length)),(24,.t (.int .i64 a.1))],[.box [.t (.int .u8 op),.t (.sl anl acl (al.map Node.c)),.t (.sl bnl bcl (bl.map Node.c)),.t (.bool low),.t (.bool high),.t (.sl knl kcl (ks.map intC)),.t (.int .i64 line),.t (.int .i64 col)],.box [.t (.int .u8 sk),.t (.int .i64 sn),.t (.str ss)],.box [.t (.int .u8 0),.t (.int .i64 0),.t (.str []),.t (.int .i64 0)],.arr 4 0 false (a.2.2.map Ans.c)]⟩
  |false=>⟨[(1,.t (.sl b b (all.map Ans.c))),(3,.t (.sl vnl vcl (vars.map Bind.c))),(4,.box 0 0),(6,.box 1 0),(8,.box 2 0),(9,.t (.sl true true [])),(22,.t (.sl knl kcl (ks.map intC))),(23,.t (.int .i64 ks.length)),(24,.t (.int .i64 a.1))],[.box [.t (.int .u8 op),.t (.sl anl acl (al.map Node.c)),.t (.sl bnl bcl (bl.map Node.c)),.t (.bool low),.t (.bool high),.t (.sl knl kcl (ks.map intC)),.t (.int .i64 line),.t (.int .i64 col)],.box [.t (.int .u8 sk),.t (.int .i64 sn),.t (.str ss)],.box [.t (.int .u8 0),.t (.int .i64 0),.t (.str []),.t (.int .i64 0)]]⟩)
  (fun a=>ks.length - a.1) (fun a=>a.1≤ks.length∧a.2.1=decide (0<a.1)∧a.2.2=(ks.take a.1).map (kidT all))
  (0,false,[]) (by(have X_:=c2 @Zero.eq_1 @Ans.c.eq_1;exact aTdX)) ⟨Nat.zero_le _,rfl,rfl⟩ ?_
 rintro⟨j,st,kl⟩ ⟨hj,hst,hkls⟩
 try dsimp only at hj hst hkls
 by_cases hj':j<ks.length
 ·have hwj:IntKind.i64.wrap ((j:Int)+1)=((j+1:Nat):Int):=by
   have:=hx2.h;dsimp only at this;rw[wrap64]<;>omega
  have hej:ks[j]?=some ks[j]:=List.getElem?_eq_getElem hj';have hdj:decide ((j:Int)<ks.length)=true:=by simpa using hj'
  have htk:ks.take (j+1)=ks.take j++[ks[j]]:=by rw[List.take_add_one,hej];rfl
  have hklen:kl.length=j:=by rw[hkls];simp;omega
  have hle:lens 4 (kl.map Ans.c)=true:=vQ Ans.c 4 (fun a=>rfl) kl;have hsm:decide (j+1<4294967296)=true:=by
   have:=hx2.h;simp only[decide_eq_true_eq];dsimp only at this;omega
  generalize ks[j]=k at hej htk;have hq:∀q:Ans,kidT all k=q→kl++[q]=(ks.take (j+1)).map (kidT all):=fun q hq=>by
   rw[htk,hkls];simp [hq]
  clear hkls htk;cases hk0:decide (k<0) with
  |true =>
   have hq2:Hid _:=⟨hq AZero (by unfold kidT;rw[if_pos];exact .inl (by simpa using hk0))⟩
   clear hq;cases st with
   |true =>
    clear hst
    (refine gA ?_)
    refine zC (j+1,true,kl++[AZero]) (by first|omega|(dsimp only;omega)) ⟨by first|omega|(dsimp only;omega),by simp,hq2.h⟩ (by(have X_:=c3 @mapA @AZero.eq_1 (c2 @Zero.eq_1 @Ans.c.eq_1);exact aTdX))
   |false =>
    have hj0:j=0:=by simpa using hst
    subst hj0;obtain rfl:kl=[]:=List.length_eq_zero_iff.1 hklen;have hej:ks[0]?=some _:=hej;clear hst hklen hle hsm
    (refine gA ?_)
    refine zC (1,true,[AZero]) (by first|omega|(dsimp only;omega)) ⟨by first|omega|(dsimp only;omega),rfl,hq2.h⟩ (by(have X_:=c3 @mapA @AZero.eq_1 (c2 @Zero.eq_1 @Ans.c.eq_1);exact aTdX))
  |false =>
   cases hk1:decide (k ≥ (all.length:Int)) with
   |true =>
    have hq2:Hid _:=⟨hq AZero (by unfold kidT;rw[if_pos];exact .inr (by simpa using hk1))⟩
    clear hq;cases st with
    |true =>
     clear hst
     (refine gA ?_)
     refine zC (j+1,true,kl++[AZero]) (by first|omega|(dsimp only;omega)) ⟨by first|omega|(dsimp only;omega),by simp,hq2.h⟩ (by(have X_:=c3 @mapA @AZero.eq_1 (c2 @Zero.eq_1 @Ans.c.eq_1);exact aTdX))
    |false =>
     have hj0:j=0:=by simpa using hst
     subst hj0;obtain rfl:kl=[]:=List.length_eq_zero_iff.1 hklen;have hej:ks[0]?=some _:=hej;clear hst hklen hle hsm
     (refine gA ?_)
     refine zC (1,true,[AZero]) (by first|omega|(dsimp only;omega)) ⟨by first|omega|(dsimp only;omega),rfl,hq2.h⟩ (by(have X_:=c3 @mapA @AZero.eq_1 (c2 @Zero.eq_1 @Ans.c.eq_1);exact aTdX))
   |false =>
    have h0k:0≤k:=by simpa using hk0
    obtain⟨q,rfl⟩:=Int.eq_ofNat_of_zero_le h0k;have hqi:q<all.length:=by
     have:¬ ((q:Int) ≥ all.length):=by simpa using hk1
     omega
    have hga:all[q]?=some (getA all q):=by
     unfold getA;rw[List.getD_eq_getElem?_getD,List.getElem?_eq_getElem hqi];rfl
    have hkid:kidT all (q:Int)=getA all q:=by
     unfold kidT;rw[if_neg (by omega),Int.toNat_natCast]
    have hq2:Hid _:=⟨hq _ hkid⟩
    generalize getA all q=ga at hga hq2;obtain⟨⟨gk,gn,gs⟩,ge⟩:=ga;clear hq hkid;cases st with
    |true =>
     clear hst
     (have x0_:=@Ans.c.eq_1;(refine gA ?_);all_goals clear x0_)
     refine zC (j+1,true,kl++[⟨⟨gk,gn,gs⟩,ge⟩]) (by first|omega|(dsimp only;omega)) ⟨by first|omega|(dsimp only;omega),by simp,hq2.h⟩ (by(have X_:=c5 @mapA @AZero.eq_1 @Zero.eq_1 @Ans.c.eq_1 @Int.toNat_natCast;exact aTdX))
    |false =>
     have hj0:j=0:=by simpa using hst
     subst hj0;obtain rfl:kl=[]:=List.length_eq_zero_iff.1 hklen;have hej:ks[0]?=some _:=hej;clear hst hklen hle hsm
     (have x0_:=@Ans.c.eq_1;(refine gA ?_);all_goals clear x0_)
     refine zC (1,true,[⟨⟨gk,gn,gs⟩,ge⟩]) (by first|omega|(dsimp only;omega)) ⟨by first|omega|(dsimp only;omega),rfl,hq2.h⟩ (by(have X_:=c5 @mapA @AZero.eq_1 @Zero.eq_1 @Ans.c.eq_1 @Int.toNat_natCast;exact aTdX))
 have hd:decide ((j:Int)<ks.length)=false:=by simpa using hj'
 have hjl:j=ks.length:=by omega
 have hkl:zAl all ks=kl:=by
  unfold zAl;rw[if_neg hks2.h,hkls,hjl,List.take_length]
 obtain rfl:st=true:=by
  rw[hst];have:ks.length≠0:=fun h=>hks2.h (List.length_eq_zero_iff.1 h)
  simp;omega
 have hne:kl≠[]:=by
  intro h;rw[h] at hkls;have:=congrArg List.length hkls;have h3:ks.length≠0:=fun h=>hks2.h (List.length_eq_zero_iff.1 h)
  simp at this;omega
 dsimp only at hkp hR;rw[hkl] at hkp;rw[hkl] at hR;obtain⟨g,gl,rfl⟩:=List.exists_cons_of_ne_nil hne;have hgl:gl.length<9223372036854775807:=by
  have h1:=congrArg List.length hkls;have h2:=hx2.h;dsimp only at h2;simp at h1;omega
 clear hkls hst hkl hne hjl;have hkp2:AOK g:=hkp.h g (by simp);have hlt:decide (((gl.length:Int)+1)<1)=false:=by simp;omega
 have hlt2:decide (((gl.length+1:Nat):Int)<1)=false:=by simp;omega
 obtain⟨⟨gk,gn,gs⟩,ge⟩:=g
 (refine gA ?_)
 (refine aI ?_)
 rcases hpc.h with h1|⟨s,h1⟩|⟨s,t,h1⟩
 ·rw[h1] at hparts;have hRe:=hR.h.1 h1;simp only[opsT,zAu,List.map_nil] at hparts;clear h1
  by_cases o1:op=1
  ·have e1:(op==1)=true:=by simp [o1]
   obtain rfl:R=⟨⟨4,1,[]⟩,0⟩:=by rw[hRe];simp [zBe,o1]
   clear o1 hRe
   (have x0_:=@Ans.c.eq_1;(repeat' first|refine gA ?_|refine gT ?_ ?_<;>intro hv<;>try cases hv;done|refine aI ?_|fail);all_goals clear x0_)
   (refine aK ?_ ?_)
   ·rfl
   rfl
  have e1:(op==1)=false:=by simpa using o1
  by_cases o8:op=8
  ·have e8:(op==8)=true:=by simp [o8]
   obtain rfl:R=NotU (⟨⟨gk,gn,gs⟩,ge⟩:Ans):=by rw[hRe];simp only[zBe,o8];rfl
   have hn:=zIX gk gn gs ge;generalize NotU (⟨⟨gk,gn,gs⟩,ge⟩:Ans)=q at hn ⊢;obtain⟨⟨rk,rn,rs⟩,re⟩:=q;clear o1 o8 hRe
   (have x0_:=@Ans.c.eq_1;(repeat' first|refine gA ?_|refine gT ?_ ?_<;>intro hv<;>try cases hv;done|refine aI ?_|fail);all_goals clear x0_)
   (refine aK ?_ ?_)
   ·rfl
   rfl
  have e8:(op==8)=false:=by simpa using o8
  by_cases o9:op=9
  ·have e9:(op==9)=true:=by simp [o9]
   obtain rfl:R=gl.foldl uW (⟨⟨gk,gn,gs⟩,ge⟩:Ans):=by rw[hRe];simp only[zBe,o9];rfl
   have hkk:Hid _:=⟨hkp.h⟩
   clear o1 o8 o9 hRe
   (have x0_:=@Ans.c.eq_1;(refine gA ?_);all_goals clear x0_)
   (refine aI ?_)
   (have x0_:=@Ans.c.eq_1;have x1_:=@Ab.slice.eq_def;have x2_:=@Ab.bound.eq_1;have x3_:=@Ab.bound.eq_2;have x4_:=@Option.getD_none.{0};have x5_:=@Nat.add_sub_cancel;have x6_:=@Nat.sub_self;have x7_:=@Int.natCast_nonneg;(repeat' first|refine gA ?_|refine gT ?_ ?_<;>intro hv<;>try cases hv;done|fail);all_goals clear x0_ x1_ x2_ x3_ x4_ x5_ x6_ x7_)
   refine zY (α:=Nat×Ans) (fun a=>⟨[(8,.box 0 0),(18,.box 1 0),(127,.hsub 2 0 1 gl.length),(128,.t (.int .i64 gl.length)),(129,.t (.int .i64 a.1))],[.box [.t (.int .u8 0),.t (.int .i64 0),.t (.str []),.t (.int .i64 0)],.box [.t (.int .u8 a.2.v.k),.t (.int .i64 a.2.v.n),.t (.str a.2.v.s),.t (.int .i64 a.2.e)],.arr 4 0 false ([.int .u8 gk,.int .i64 gn,.str gs,.int .i64 ge]::gl.map Ans.c)]⟩)
    (fun a=>gl.length - a.1) (fun a=>a.1≤gl.length∧a.2=(gl.take a.1).foldl uW (⟨⟨gk,gn,gs⟩,ge⟩:Ans)) (0,(⟨⟨gk,gn,gs⟩,ge⟩:Ans)) (by(have X_:=c3 @AZero.eq_1 @Zero.eq_1 @Ans.c.eq_1;exact aTdX)) ⟨Nat.zero_le _,rfl⟩ ?_
   rintro⟨j,cur⟩ ⟨hj,hcur⟩
   try dsimp only at hj hcur
   have hcp:AOK cur:=by rw[hcur];exact zMf _ _ hkp2
   by_cases hj':j<gl.length
   ·have hwj:=wI64 j (by omega);have hej:gl[j]?=some gl[j]:=List.getElem?_eq_getElem hj';have hdj:decide ((j:Int)<gl.length)=true:=by simpa using hj'
    have htk:gl.take (j+1)=gl.take j++[gl[j]]:=by rw[List.take_add_one,hej];rfl
    have hxp:AOK gl[j]:=hkk.h _ (List.mem_cons_of_mem _ (List.getElem_mem hj'));generalize gl[j]=x at hej htk hxp;have hnext:(gl.take (j+1)).foldl uW (⟨⟨gk,gn,gs⟩,ge⟩:Ans)=uW cur x:=by rw[htk,List.foldl_append,← hcur];rfl
    have hbo:=zLE cur x hcp hxp;have hnth:nth (gl.map Ans.c) j=some x.c:=by rw[yP,List.getElem?_map,hej];rfl
    generalize uW cur x=nx at hnext hbo;have hnext2:Hid _:=⟨hnext⟩
    clear hnext hcur htk hcp hxp hkp2;obtain⟨⟨ck,cn,cs⟩,ce⟩:=cur;obtain⟨⟨xk,xn,xs⟩,xe⟩:=x;obtain⟨⟨yk,yn,ys⟩,ye⟩:=nx;dsimp only[Ans.c] at hbo hnth;have hz0:(0:Int)≤(j:Int):=Int.natCast_nonneg j;have hjl:(j:Int)<(gl.length:Int):=by omega
    have hgg:(1+gl.length≤gl.length+1):=by omega
    (have x0_:=@Ans.c.eq_1;have x1_:=@Nat.le_refl;(refine gA ?_);all_goals clear x0_ x1_)
    refine zC (j+1,⟨⟨yk,yn,ys⟩,ye⟩) (by first|omega|(dsimp only;omega)) ⟨by first|omega|(dsimp only;omega),hnext2.h.symm⟩ (by(have X_:=c3 @AZero.eq_1 @Zero.eq_1 @Ans.c.eq_1;exact aTdX))
   have hdj:decide ((j:Int)<gl.length)=false:=by simpa using hj'
   rw[List.take_of_length_le (by omega)] at hcur;rw[← hcur];clear hcur hcp hkp2;obtain⟨⟨ck,cn,cs⟩,ce⟩:=cur
   (have x0_:=@Ans.c.eq_1;(refine gA ?_);all_goals clear x0_)
   (refine aK ?_ ?_)
   ·rfl
   rfl
  have e9:(op==9)=false:=by simpa using o9
  obtain rfl:R=⟨Zero,2⟩:=by rw[hRe];simp [zBe,o1,o8,o9]
  clear o1 o8 o9 hRe
  (have x0_:=@Ans.c.eq_1;(repeat' first|refine gA ?_|refine gT ?_ ?_<;>intro hv<;>try cases hv;done|refine aI ?_|fail);all_goals clear x0_)
  (refine aK ?_ ?_)
  ·rfl
  rfl
 ·rw[h1] at hparts;have hRe:=hR.h.2.1 s h1;simp only[opsT,zAu,List.map_cons,List.map_nil,Sl.t] at hparts;obtain⟨L,hA,hE⟩:=hmA.h s;dsimp only at hA hE hRe;rw[← hRe] at hE;clear h1 hRe;clear hR;obtain⟨⟨rk,rn,rs⟩,re⟩:=R;dsimp only at hE
  (have x0_:=@Ans.c.eq_1;(repeat' first|refine gA ?_|refine gT ?_ ?_<;>intro hv<;>try cases hv;done|refine aI ?_|fail);all_goals clear x0_)
  (refine aK ?_ ?_)
  ·rfl
  rfl
 rw[h1] at hparts;have hRe:=hR.h.2.2 s t h1;simp only[opsT,zAu,List.map_cons,List.map_nil,Sl.t] at hparts;obtain⟨L,hA,hE⟩:=hmA.h s;obtain⟨M,hB,hF⟩:=hmB.h t;have pa:=hpA.h s;have pb:=hpB.h t;dsimp only at hA hE hB hF pa pb hRe;generalize wL (vA s (al.map Node.s)) ⟨sk,sn,ss⟩ vars=ea at hE pa hRe;generalize wL (vA t (bl.map Node.s)) ⟨sk,sn,ss⟩ vars=eb at hF pb hRe;have hbo:=zHs ea eb pa pb;rw[← hRe] at hbo;clear h1 hRe pa pb;clear hR;obtain⟨⟨rk,rn,rs⟩,re⟩:=R;obtain⟨⟨eak,ean,eas⟩,eae⟩:=ea;obtain⟨⟨ebk,ebn,ebs⟩,ebe⟩:=eb;dsimp only at hE hF hbo
 (have x0_:=@Ans.c.eq_1;(repeat' first|refine gA ?_|refine gT ?_ ?_<;>intro hv<;>try cases hv;done|refine aI ?_|fail);all_goals clear x0_)
 (refine aK ?_ ?_)
 ·rfl
 rfl
def zMe(ts:List Test)(self:Val)(vars:List Bind)(hx:∀x ∈ ts,TOK x)(hs:VOK self)(hv:∀b ∈ vars,VOK b.v):∀i,∀a ∈ zAJ (ts.map Test.s) self vars i,AOK a
 |0,a,h=>by cases h
 |i+1,a,h=>by
  rcases List.mem_append.1 h with h|h
  ·exact zMe ts self vars hx hs hv i a h
  rw[List.mem_singleton.1 h,List.getElem?_map];cases hi:ts[i]? with
  |none=>exact yR
  |some x=>exact zYI x _ self vars (hx x (List.mem_of_getElem? hi)) (zMe ts self vars hx hs hv i) hs hv
def zTI (nl cl:Bool) (t:List Test) (self:Val) (vnl vcl:Bool) (vars:List Bind) (hl:t.length<4294967000) (hx:∀x ∈ t,TOK x) (hs:VOK self) (hv:∀b ∈ vars,VOK b.v) (hvl:vars.length<9223372036854775808) :
  Om CC 26 [.t (.sl nl cl (t.map Test.c)),.t (.agg [.int .u8 self.k,.int .i64 self.n,.str self.s]),.t (.sl vnl vcl (vars.map Bind.c))] [] =
   some (.val (.tup [.t (.agg [.int .u8 (uT (t.map Test.s) self vars).v.k,.int .i64 (uT (t.map Test.s) self vars).v.n,.str (uT (t.map Test.s) self vars).v.s]),.t (.int .i64 (uT (t.map Test.s) self vars).e)]),[]):=by
 refine zK yB8 rfl ?_;have htp:Hid _:=⟨zMe t self vars hx hs hv⟩
 have hcall:Hid _:=⟨fun(x:Test) (h:x ∈ t) (all:List Ans) (b:Bool) (h2:∀a ∈ all,AOK a) (h3:all.length<4294967295)=>zX8 x all b self vnl vcl vars (hx x h) h2 h3 hs hv hvl⟩
 have hl2:Hid _:=⟨hl⟩
 unfold uT;rw[List.length_map];have hstp:Hid _:=⟨fun i (x:Test) (h:t[i]?=some x)=>(show zAJ (t.map Test.s) self vars (i+1)=zAJ (t.map Test.s) self vars i++[kZ x.s (zAJ (t.map Test.s) self vars i) self vars] by rw[zAJ,List.getElem?_map,h];rfl)⟩
 generalize hE:zAJ (t.map Test.s) self vars=N at *;have h0:Hid (N 0=[]):=⟨by rw[← hE];rfl⟩
 have hNl:Hid _:=⟨fun i=>(show (N i).length=i by rw[← hE];exact zHE _ _ _ i)⟩
 clear hE hx hs hv hl;obtain⟨sk,sn,ss⟩:=self
 (have F_:=c5 zF zG zQ zE (c5 zD zI uH yM (c5 zB vV zO zL (c5 yL zN zU zCo (c3 zSG yHq yHN))));show W CC 0 33 (zA 26) _ ⟨[(0,_),(1,_),(2,_)],[]⟩ _)
 (refine gA ?_)
 refine zY (α:=Nat×Bool×List Ans×Ans) (fun a=>match a.2.1 with
   |true=>⟨[(2,.t (.sl vnl vcl (vars.map Bind.c))),(4,.box 0 0),(6,.box 1 0),(8,.box 2 0),(9,.hs 3 0),(13,.t (.sl nl cl (t.map Test.c))),(14,.t (.int .i64 t.length)),(15,.t (.int .i64 a.1))],[.box [.t (.int .u8 sk),.t (.int .i64 sn),.t (.str ss)],.box [.t (.int .u8 0),.t (.int .i64 0),.t (.str [])],.box [.t (.int .u8 a.2.2.2.v.k),.t (.int .i64 a.2.2.2.v.n),.t (.str a.2.2.2.v.s),.t (.int .i64 a.2.2.2.e)],.arr 4 0 false (a.2.2.1.map Ans.c)]⟩
   |false=>⟨[(2,.t (.sl vnl vcl (vars.map Bind.c))),(4,.box 0 0),(6,.box 1 0),(8,.box 2 0),(9,.t (.sl true true [])),(13,.t (.sl nl cl (t.map Test.c))),(14,.t (.int .i64 t.length)),(15,.t (.int .i64 a.1))],[.box [.t (.int .u8 sk),.t (.int .i64 sn),.t (.str ss)],.box [.t (.int .u8 0),.t (.int .i64 0),.t (.str [])],.box [.t (.int .u8 a.2.2.2.v.k),.t (.int .i64 a.2.2.2.v.n),.t (.str a.2.2.2.v.s),.t (.int .i64 a.2.2.2.e)]]⟩)
  (fun a=>t.length - a.1) (fun a=>a.1≤t.length∧a.2.1=decide (0<a.1)∧a.2.2.1=N a.1∧a.2.2.2=zGb (N a.1))
  (0,false,[],⟨Zero,2⟩) (by(have X_:=c2 @Zero.eq_1 @Ans.c.eq_1;exact aTdX)) ⟨Nat.zero_le _,rfl,h0.h.symm,by rw[h0.h];rfl⟩ ?_
 rintro⟨i,st,all,last⟩ ⟨hi,hst,hall,hlast⟩
 try dsimp only at hi hst hall hlast
 have halen:all.length=i:=by rw[hall];exact hNl.h i
 by_cases hi':i<t.length
 ·have hw:IntKind.i64.wrap ((i:Int)+1)=((i+1:Nat):Int):=by
   have:=hl2.h;rw[wrap64]<;>omega
  have he:t[i]?=some t[i]:=List.getElem?_eq_getElem hi';have hd:decide ((i:Int)<t.length)=true:=by simpa using hi'
  have hmem:=List.getElem_mem hi';generalize t[i]=x at he hmem;have hN:=hstp.h i x he;have hc:=fun b=>hcall.h x hmem all b (by rw[hall];exact htp.h i) (by have:=hl2.h;omega)
  rw[← hall] at hN;have hsm:decide (i+1<4294967296)=true:=by
   have:=hl2.h;simp only[decide_eq_true_eq];omega
  have hle:lens 4 (all.map Ans.c)=true:=vQ Ans.c 4 (fun a=>rfl) all;generalize kZ x.s all ⟨sk,sn,ss⟩ vars=R at hN hc;obtain⟨⟨rk,rn,rs⟩,re⟩:=R;obtain⟨⟨lk,ln,ls⟩,le⟩:=last;have hN2:Hid _:=⟨hN⟩
  clear hN hlast hmem;simp only[Test.c,Sl.t] at hc;cases st with
  |true =>
   have hc:=hc false;clear hst hall
   (refine gA ?_)
   refine zC (i+1,true,all++[⟨⟨rk,rn,rs⟩,re⟩],⟨⟨rk,rn,rs⟩,re⟩) (by first|omega|(dsimp only;omega)) ⟨by first|omega|(dsimp only;omega),by simp,hN2.h.symm,by rw[hN2.h];exact(zRo _ _).symm⟩ (by(have X_:=c3 @mapA @AZero.eq_1 (c2 @Zero.eq_1 @Ans.c.eq_1);exact aTdX))
  |false =>
   have hc:=hc true;have hi0:i=0:=by simpa using hst
   obtain rfl:all=[]:=List.length_eq_zero_iff.1 (by omega);subst hi0;clear hst hall hle hsm halen;simp only[List.map_nil] at hc
   (refine gA ?_)
   refine zC (1,true,[⟨⟨rk,rn,rs⟩,re⟩],⟨⟨rk,rn,rs⟩,re⟩) (by first|omega|(dsimp only;omega)) ⟨by first|omega|(dsimp only;omega),rfl,hN2.h.symm,by have:=hN2.h;simp only[List.nil_append] at this;rw[this];rfl⟩ (by(have X_:=c3 @mapA @AZero.eq_1 (c2 @Zero.eq_1 @Ans.c.eq_1);exact aTdX))
 have hd:decide ((i:Int)<t.length)=false:=by simpa using hi'
 have hit:i=t.length:=by omega
 have hNt:zGb (N t.length)=last:=by rw[hlast,hit]
 rw[hNt];clear hNt hall hlast hst halen hit;obtain⟨⟨lk,ln,ls⟩,le⟩:=last;cases st with
 |true =>
  (have x0_:=@Ans.c.eq_1;(refine gA ?_);all_goals clear x0_)
  (refine aK ?_ ?_)
  ·rfl
  rfl
 |false =>
  (have x0_:=@Ans.c.eq_1;(refine gA ?_);all_goals clear x0_)
  (refine aK ?_ ?_)
  ·rfl
  rfl
def zWD (nl cl:Bool) (t:List Test) (self:Val) (vnl vcl:Bool) (vars:List Bind) (hl:t.length<4294967000) (hx:∀x ∈ t,TOK x) (hs:VOK self) (hv:∀b ∈ vars,VOK b.v) (hvl:vars.length<9223372036854775808) :
  Om CC 19 [.t (.sl nl cl (t.map Test.c)),.t (.agg [.int .u8 self.k,.int .i64 self.n,.str self.s]),.t (.sl vnl vcl (vars.map Bind.c))] [] =
   some (.val (.t (.bool (zEV (uT (t.map Test.s) self vars)))),[]):=by
 refine zK yCg rfl ?_;have hc:=zTI nl cl t self vnl vcl vars hl hx hs hv hvl;have hp:=zUK (uT (t.map Test.s) self vars);generalize uT (t.map Test.s) self vars=R at hc hp ⊢;generalize zEV R=q at hp ⊢;clear hx hs hv hl hvl;obtain⟨sk,sn,ss⟩:=self
 (have F_:=c5 zF zG zQ zE (c5 zD zI uH yM (c5 zB vV zO zL (c5 yL zN zU yGG (c2 yHp yHR))));show W CC 0 14 (zA 19) _ ⟨[(0,_),(1,_),(2,_)],[]⟩ _)
 (refine gA ?_)
 exact⟨by kernel_rfl,.t (.bool q),by kernel_rfl,by kernel_rfl⟩
def zUy(v:Val):∃x:Val,Om CC 87 [.t (.agg [.int .u8 v.k,.int .i64 v.n,.str v.s])] []=some (.val (.t (.agg [.int .u8 x.k,.int .i64 x.n,.str x.s])),[])∧(TB ⟨x,0⟩):=by
 refine zJ zSD rfl ?_
 (have F_:=xaV;show W CC 0 11 (zA 87) _ ⟨[(0,_)],[]⟩ _)
 (repeat' first|refine gA ?_|refine gT ?_ ?_<;>intro hv|fail)
 all_goals refine aJ ?_<;>(first|exact⟨Zero,⟨rfl,rfl⟩,zCh⟩|exact⟨uR _,⟨rfl,rfl⟩,zKl _⟩)
def yBw(v:Val):TB ⟨NotV v,0⟩:=by
 obtain⟨x,hx,ht⟩:=zUy v;have h:=(zGH v).symm.trans hx;generalize NotV v=y at h;obtain⟨k,n,s⟩:=y;obtain⟨k',n',s'⟩:=x;cases h;exact ht
def zPw(a:Ans):∃x:Ans,Om CC 85 [.t (.agg [.int .u8 a.v.k,.int .i64 a.v.n,.str a.v.s,.int .i64 a.e])] []=some (.val (.t (.agg [.int .u8 x.v.k,.int .i64 x.v.n,.str x.v.s,.int .i64 x.e])),[])∧(TB a→x=a):=by
 refine zJ zO0 rfl ?_
 (have F_:=xaZ;show W CC 0 20 (zA 85) _ ⟨[(0,_)],[]⟩ _)
 obtain⟨⟨k,n,s⟩,e⟩:=a
 (repeat' first|refine gA ?_|refine gT ?_ ?_<;>intro hv|fail)
 all_goals refine aJ ?_<;>(first|exact⟨⟨⟨k,n,s⟩,e⟩,⟨rfl,rfl⟩,fun _=>rfl⟩|exact⟨⟨Zero,8⟩,⟨rfl,rfl⟩,fun h=>absurd h.2 (by clear F_;simp_all [VT,VF,VZ])⟩)
def zJZ{a:Ans}(h:TB a):zBN a=a:=by
 obtain⟨x,hx,ht⟩:=zPw a;have:=ht h;subst this;obtain⟨⟨k,n,s⟩,e⟩:=x;have h:=(zBX k n s e).symm.trans hx;generalize zBN ⟨⟨k,n,s⟩,e⟩=y at h;obtain⟨⟨k',n',s'⟩,e'⟩:=y;cases h
 rfl
def zU3(a:Ans)(ha:TB a):∃x:Ans,Om CC 56 [.t (.agg [.int .u8 a.v.k,.int .i64 a.v.n,.str a.v.s,.int .i64 a.e])] []=some (.val (.t (.agg [.int .u8 x.v.k,.int .i64 x.v.n,.str x.v.s,.int .i64 x.e])),[])∧(TB x):=by
 refine zJ zOn rfl ?_
 (have F_:=c5 zF zE zD zB (c5 zU zCo zRZ zK3 zNQ);show W CC 0 13 (zA 56) _ ⟨[(0,_)],[]⟩ _)
 obtain⟨⟨k,n,s⟩,e⟩:=a;have ht:=zBX k n s e;rw[zJZ ha] at ht;have hn:=zGH ⟨k,n,s⟩;dsimp only at ht hn;have pn2:Hid _:=⟨yBw ⟨k,n,s⟩⟩
 generalize NotV ⟨k,n,s⟩=w at hn pn2;have ha2:Hid _:=⟨ha⟩
 clear ha
 (repeat' first|refine gA ?_|refine gT ?_ ?_<;>intro hv|fail)
 all_goals refine aJ ?_<;>(first|exact⟨⟨⟨k,n,s⟩,e⟩,⟨rfl,rfl⟩,ha2.h⟩|exact⟨⟨w,e⟩,⟨rfl,rfl⟩,pn2.h.1,pn2.h.2.elim (fun h=>absurd rfl h) .inr⟩|exact⟨⟨w,0⟩,⟨rfl,rfl⟩,pn2.h⟩)
def yEX{a:Ans}(h:TB a):TB (NotU a):=by
 obtain⟨x,hx,ht⟩:=zU3 a h;obtain⟨⟨k,n,s⟩,e⟩:=a;have h:=(zIX k n s e).symm.trans hx;generalize NotU ⟨⟨k,n,s⟩,e⟩=y at h;obtain⟨⟨k',n',s'⟩,e'⟩:=y;obtain⟨⟨k2,n2,s2⟩,e2⟩:=x;cases h;exact ht
def zQf (f:Nat) (hb:yX Tryz.prog f=true) (hbp:∀x,CC.prim f x=none) (F:Val→Val→Val) (hF:∀a b,VOK a→VOK b→Om CC f [.t (.sl false false [[.int .u8 a.k,.int .i64 a.n,.str a.s],[.int .u8 b.k,.int .i64 b.n,.str b.s]])] []=some (.val (.t (.agg [.int .u8 (F a b).k,.int .i64 (F a b).n,.str (F a b).s])),[]))
  (a b:Ans) (ends:Bool) (ha:TB a) (hb':TB b) (r:Ans) (hr:r=if a.e≠0∨a.v=uR ends then a else if b.e≠0 then b else ⟨F a.v b.v,0⟩) :
  Om CC 54 [.t (.agg [.int .u8 a.v.k,.int .i64 a.v.n,.str a.v.s,.int .i64 a.e]),.t (.agg [.int .u8 b.v.k,.int .i64 b.v.n,.str b.v.s,.int .i64 b.e]),.t (.bool ends),.t (.fn f)] []=some (.val (.t (.agg [.int .u8 r.v.k,.int .i64 r.v.n,.str r.v.s,.int .i64 r.e])),[]):=by
 refine zK zTw rfl ?_
 (have F_:=c5 zF zQ zE zD (c5 xE zB zU zCo (c5 zIE zXo zK3 zDz @zHm));show W CC 0 38 (zA 54) _ ⟨[(0,_),(1,_),(2,_),(3,_)],[]⟩ _)
 obtain⟨⟨tk,tn,ts⟩,te⟩:=a;obtain⟨⟨uk,un,us⟩,ue⟩:=b;have ht:=zBX tk tn ts te;have ht':=zBX uk un us ue;rw[zJZ ha] at ht;rw[zJZ hb'] at ht';have hf:=hF _ _ ha.1 hb'.1;clear hF ha hb';dsimp only at hr hf ht ht';have htr:=uU ends;generalize uR ends=T at hr htr;obtain⟨Tk,Tn,Ts⟩:=T
 by_cases h1:te=0
 ·by_cases h2:(⟨tk,tn,ts⟩:Val)=⟨Tk,Tn,Ts⟩
  ·have hd:decide ((⟨tk,tn,ts⟩:Val)=⟨Tk,Tn,Ts⟩)=true:=by simpa using h2
   rw[if_pos (.inr h2)] at hr;subst h1;clear h2;subst hr
   (refine gA ?_)
   all_goals refine aK ?_ ?_<;>(first|rfl)
  have hd:decide ((⟨tk,tn,ts⟩:Val)=⟨Tk,Tn,Ts⟩)=false:=by simpa using h2
  rw[if_neg (by simpa [h1] using h2)] at hr;subst h1;clear h2
  by_cases h3:ue=0
  ·rw[if_neg (by simpa using h3)] at hr;subst h3;subst hr
   (refine gA ?_)
   all_goals refine aK ?_ ?_<;>(first|rfl)
  rw[if_pos h3] at hr;have hue:(ue==0)=false:=by simpa using h3
  have hue2:(ue != 0)=true:=by simpa using h3
  clear h3;subst hr
  (refine gA ?_)
  all_goals refine aK ?_ ?_<;>(first|rfl)
 rw[if_pos (.inl h1)] at hr;have hte:(te==0)=false:=by simpa using h1
 have hte2:(te != 0)=true:=by simpa using h1
 clear h1;subst hr
 (refine gA ?_)
 all_goals refine aK ?_ ?_<;>(first|rfl)
def anyV(a b:Val):Val:=if a=VT∨b=VT then VT else if a=VF∧b=VF then VF else VZ
def allV(a b:Val):Val:=if a=VF∨b=VF then VF else if a=VT∧b=VT then VT else VZ
def zIS{a:Val}(h:a=VT∨a=VF∨a=VZ):VOK a:=by
 rcases h with rfl|rfl|rfl
 ·exact zMg
 ·exact zOO
 exact zAA
def yBx{a b:Val}(ha:a=VT∨a=VF∨a=VZ)(hb:b=VT∨b=VF∨b=VZ):Any2 a b=anyV a b:=by
 have key:Om CC 57 [.t (.sl false false [[.int .u8 a.k,.int .i64 a.n,.str a.s],[.int .u8 b.k,.int .i64 b.n,.str b.s]])] []=some (.val (.t (.agg [.int .u8 (anyV a b).k,.int .i64 (anyV a b).n,.str (anyV a b).s])),[]):=by
  rcases ha with rfl|rfl|rfl<;>rcases hb with rfl|rfl|rfl<;>exact jR (n:=2000) (by kernel_rfl)
 have h:=(zFk a b (zIS ha) (zIS hb)).symm.trans key;generalize Any2 a b=x at h;generalize anyV a b=y at h;obtain⟨k,n,s⟩:=x;obtain⟨k',n',s'⟩:=y;cases h
 rfl
def yCp{a b:Val}(ha:a=VT∨a=VF∨a=VZ)(hb:b=VT∨b=VF∨b=VZ):All2 a b=allV a b:=by
 have key:Om CC 55 [.t (.sl false false [[.int .u8 a.k,.int .i64 a.n,.str a.s],[.int .u8 b.k,.int .i64 b.n,.str b.s]])] []=some (.val (.t (.agg [.int .u8 (allV a b).k,.int .i64 (allV a b).n,.str (allV a b).s])),[]):=by
  rcases ha with rfl|rfl|rfl<;>rcases hb with rfl|rfl|rfl<;>exact jR (n:=2000) (by kernel_rfl)
 have h:=(zFf a b (zIS ha) (zIS hb)).symm.trans key;generalize All2 a b=x at h;generalize allV a b=y at h;obtain⟨k,n,s⟩:=x;obtain⟨k',n',s'⟩:=y;cases h
 rfl
def yDD{a b:Val}:TB ⟨allV a b,0⟩:=by
 unfold allV;split
 ·exact⟨zOO,.inr (.inr (.inl rfl))⟩
 split
 ·exact⟨zMg,.inr (.inl rfl)⟩
 exact⟨zAA,.inr (.inr (.inr rfl))⟩
def zQn{x y:Ans}(h:(some (Out.val (.t (.agg [.int .u8 x.v.k,.int .i64 x.v.n,.str x.v.s,.int .i64 x.e])),([]:Heap)):Option (Out×Heap))=some (.val (.t (.agg [.int .u8 y.v.k,.int .i64 y.v.n,.str y.v.s,.int .i64 y.e])),[])):x=y:=by
 obtain⟨⟨k,n,s⟩,e⟩:=x;obtain⟨⟨k',n',s'⟩,e'⟩:=y;cases h
 rfl
def zZE:uR true=VT:=zH8 true
def zZC:uR false=VF:=zH8 false
def zRt{a b:Ans}(ha:TB a)(hb:TB b):uW a b=BA a b:=by
 have h:=(zLE a b ha.1 hb.1).symm.trans (zQf 57 zLT (fun x=>zZ _ x (by decide)) Any2 zFk a b true ha hb _ rfl);rw[zQn h,zZE];unfold BA
 by_cases h1:a.e≠0∨a.v=VT
 ·rw[if_pos h1,if_pos h1]
 rw[if_neg h1,if_neg h1]
 by_cases h2:b.e≠0
 ·rw[if_pos h2,if_pos h2]
 rw[if_neg h2,if_neg h2];have ta:=ha.2.resolve_left (fun h=>h1 (.inl h));have tb:=hb.2.resolve_left h2;rw[yBx ta tb];unfold anyV;have h3:a.v≠VT:=fun h=>h1 (.inr h)
 by_cases h4:b.v=VT
 ·rw[if_pos (.inr h4),if_pos h4]
 rw[if_neg (fun h=>h.elim h3 h4),if_neg h4];split<;>rfl
def zEX{a b:Ans}(ha:TB a)(hb:TB b):kT a b=if a.e≠0∨a.v=VF then a else if b.e≠0 then b else ⟨allV a.v b.v,0⟩:=by
 have h:=(zHs a b ha.1 hb.1).symm.trans (zQf 55 zI7 (fun x=>zZ _ x (by decide)) All2 zFf a b false ha hb _ rfl);rw[zQn h,zZC]
 by_cases h1:a.e≠0∨a.v=VF
 ·rw[if_pos h1,if_pos h1]
 rw[if_neg h1,if_neg h1]
 by_cases h2:b.e≠0
 ·rw[if_pos h2,if_pos h2]
 rw[if_neg h2,if_neg h2,yCp (ha.2.resolve_left (fun h=>h1 (.inl h))) (hb.2.resolve_left h2)]
def zUL{a b:Ans}(ha:TB a)(hb:TB b):TB (kT a b):=by
 rw[zEX ha hb];split
 ·exact ha
 split
 ·exact hb
 exact yDD
def zSm(ns:List SNode)(x:SNode)(self:Val)(vars:List Bind):wL (ns++[x]) self vars=zDF (wH (ns++[x]) self vars ns.length) (ns++[x]) x self vars:=by
 unfold wL;rw[List.length_append,List.length_singleton,wH,zKR,List.getElem?_append_right (Nat.le_refl _),Nat.sub_self]
 rfl
def zNI(self:Val)(vars:List Bind)(op:Int)(l:List SNode)(ho:op=7∨op=8∨op=9∨op=10∨op=11∨op=12):TB (wL (vA op l) self vars):=by
 have e:vA op l=(l++[⟨3,Zero,[],[]⟩])++[⟨op,Zero,[],[(l.length:Int),(l.length:Int) - 1]⟩]:=by
  unfold vA;rw[List.append_assoc];rfl
 rw[e,zSm];unfold zDF;have hl:(uJ op Zero [] self vars).2=false:=by
  unfold uJ;rw[if_neg (by omega),if_neg (by omega),if_neg (by omega)]
 dsimp only;rw[hl,if_neg (by decide)];exact zVB op _ _ ho
def zNK(self:Val)(vars:List Bind):SemOK (SemA self vars) where
 cmp:=fun op a ho=>zNI self vars op a ho
 all:=fun a b ha hb=>zUL ha hb
 any:=fun a b ha hb=>zRt ha hb
 not:=fun a ha=>yEX ha
end Go.Ab
