/- Lemmas. -/
import Derived.Test.YtdbfacakphncfaaGreatDoorG18
import Derived.Test.YtdbfacakphncfaaGreatDoorG04
set_option maxRecDepth 1000000
set_option maxHeartbeats 40000000
set_option linter.all false
namespace Go.Ab
open Go.Proofs
attribute [local irreducible] W RW RR
def zKa(v:Val)(e:Int):∃x:Ans,Om CC 135 [.t (.agg [.int .u8 v.k,.int .i64 v.n,.str v.s]),.t (.int .i64 e)] []=some (.val (.t (.agg [.int .u8 x.v.k,.int .i64 x.v.n,.str x.v.s,.int .i64 x.e])),[])∧(VOK v→VOK x.v):=by
 refine zJ zYD rfl ?_
 (have F_:=c5 zF zE zC zB (c3 zR xN yEZ);show W CC 0 11 (zA 135) _ ⟨[(0,_),(1,_)],[]⟩ _)
 (repeat' first|refine gA ?_|refine gT ?_ ?_<;>intro hv|fail)
 all_goals refine aJ ?_<;>(refine⟨⟨⟨_,_,_⟩,_⟩,⟨rfl,rfl⟩,?_⟩;first|exact fun _=>yX|exact fun h=>h)
noncomputable def Told(v:Val)(e:Int):Ans:=(zKa v e).choose
def zFc(v:Val)(e:Int):Om CC 135 [.t (.agg [.int .u8 v.k,.int .i64 v.n,.str v.s]),.t (.int .i64 e)] []=some (.val (.t (.agg [.int .u8 (Told v e).v.k,.int .i64 (Told v e).v.n,.str (Told v e).v.s,.int .i64 (Told v e).e])),[]):=(zKa v e).choose_spec.1
def zGH(v:Val)(e:Int):VOK v→VOK (Told v e).v:=(zKa v e).choose_spec.2
def xaX:=c5 zF zE zC zB (c3 zR xN zTp)
def zKp(e:Int):∃x:Ans,Om CC 115 [.t (.int .i64 e)] []=some (.val (.t (.agg [.int .u8 x.v.k,.int .i64 x.v.n,.str x.v.s,.int .i64 x.e])),[])∧(VOK x.v):=by
 refine zJ zQR rfl ?_
 (have F_:=xaX;show W CC 0 5 (zA 115) _ ⟨[(0,_)],[]⟩ _)
 (refine gA ?_)
 all_goals refine aJ ?_<;>(refine⟨⟨⟨_,_,_⟩,_⟩,⟨rfl,rfl⟩,?_⟩;exact yX)
noncomputable def Fail(e:Int):Ans:=(zKp e).choose
def zBZ(e:Int):Om CC 115 [.t (.int .i64 e)] []=some (.val (.t (.agg [.int .u8 (Fail e).v.k,.int .i64 (Fail e).v.n,.str (Fail e).v.s,.int .i64 (Fail e).e])),[]):=(zKp e).choose_spec.1
def zEw(e:Int):VOK (Fail e).v:=(zKp e).choose_spec.2
def zSL(e:Int):Om CC 115 [.t (.int .i64 e)] []=some (.val (.t (.agg [.int .u8 0,.int .i64 0,.str [],.int .i64 e])),[]):=by
 refine zL zQR rfl ?_
 (have F_:=xaX;show W CC 0 5 (zA 115) _ ⟨[(0,_)],[]⟩ _)
 (refine gA ?_)
 all_goals refine aK ?_ ?_<;>(first|rfl)
def yBh(e:Int):Fail e=⟨VZ,e⟩:=by
 have h:=(zBZ e).symm.trans (zSL e);generalize Fail e=x at h;obtain⟨⟨k,n,s⟩,e'⟩:=x;cases h
 rfl
def zTJ(e:Int)(h:e≠0):TB (Fail e):=by rw[yBh];exact⟨jN,.inl h⟩
def zPX(b:Bool):Om CC 87 [.t (.bool b)] []=some (.val (.t (.agg [.int .u8 4,.int .i64 (match b with|true=>1|false=>0),.str []])),[]):=by
 cases b with
 |true =>
  refine zL zOH rfl ?_
  (have F_:=xaU;show W CC 0 6 (zA 87) _ ⟨[(0,_)],[]⟩ _)
  (refine gA ?_)
  all_goals refine aK ?_ ?_<;>(first|rfl)
 |false =>
  refine zL zOH rfl ?_
  (have F_:=xaU;show W CC 0 6 (zA 87) _ ⟨[(0,_)],[]⟩ _)
  (refine gA ?_)
  all_goals refine aK ?_ ?_<;>(first|rfl)
def zHZ(b:Bool):uF b=⟨4,(match b with|true=>1|false=>0),[]⟩:=by
 have h:=(qD b).symm.trans (zPX b);generalize uF b=x at h;obtain⟨k,n,s⟩:=x;cases b<;>(cases h;rfl)
def zKl(b:Bool):TB ⟨uF b,0⟩:=by
 rw[zHZ];cases b
 ·exact⟨zO6,.inr (.inr (.inl rfl))⟩
 exact⟨zMV,.inr (.inl rfl)⟩
def zJ8(v:Val):∃x:Ans,Om CC 114 [.t (.agg [.int .u8 v.k,.int .i64 v.n,.str v.s])] []=some (.val (.t (.agg [.int .u8 x.v.k,.int .i64 x.v.n,.str x.v.s,.int .i64 x.e])),[])∧(VOK v→VOK x.v):=by
 refine zJ zYx rfl ?_
 (have F_:=c5 zF zP zE zC (c5 zB zR xN yEP (c3 zO3 zEB (c2 @zRl @zBZ)));show W CC 0 9 (zA 114) _ ⟨[(0,_)],[]⟩ _)
 (repeat' first|refine gA ?_|refine gT ?_ ?_<;>intro hv|fail)
 all_goals refine aJ ?_<;>(refine⟨⟨⟨_,_,_⟩,_⟩,⟨rfl,rfl⟩,?_⟩;first|exact fun _=>zEw _|exact fun h=>h)
noncomputable def Held(v:Val):Ans:=(zJ8 v).choose
def zZh(v:Val):Om CC 114 [.t (.agg [.int .u8 v.k,.int .i64 v.n,.str v.s])] []=some (.val (.t (.agg [.int .u8 (Held v).v.k,.int .i64 (Held v).v.n,.str (Held v).v.s,.int .i64 (Held v).e])),[]):=(zJ8 v).choose_spec.1
def zPp(v:Val):VOK v→VOK (Held v).v:=(zJ8 v).choose_spec.2
def AOK(a:Ans):Prop:=VOK a.v
def zBK{kl:List Ans}(h:∀a ∈ kl,AOK a)(i:Nat):VOK (getA kl i).v:=by
 unfold getA;rw[List.getD_eq_getElem?_getD];cases hi:kl[i]? with
 |none=>exact yX
 |some a=>exact h a (List.mem_of_getElem? hi)
def zDJ(nl cl hc hh:Bool)(kl:List Ans)(ns:List (List Tree))(i:Nat):Om CC 164 [.t (.agg [.sl nl cl (kl.map Ans.c),.sl hc hh ns]),.t (.int .i64 (i:Int))] []=some (.val (.t (.agg [.int .u8 (getA kl i).v.k,.int .i64 (getA kl i).v.n,.str (getA kl i).v.s,.int .i64 (getA kl i).e])),[]):=by
 refine zL zZN rfl ?_
 (have F_:=c5 zF zG zP zE (c5 zC zB zR kA (c3 xN kC (c2 kE yD4)));show W CC 0 16 (zA 164) _ ⟨[(0,_),(1,_)],[]⟩ _)
 by_cases hi:i<kl.length
 ·have hd:decide ((i:Int) ≥ kl.length)=false:=by simp;omega
  have he:kl[i]?=some kl[i]:=List.getElem?_eq_getElem hi;have hg:getA kl i=kl[i]:=by unfold getA;rw[List.getD_eq_getElem?_getD,he];rfl
  rw[hg];generalize kl[i]=a at he
  (have x0_:=@Ans.c.eq_1;(refine gA ?_);all_goals clear x0_)
  (refine aK ?_ ?_)
  ·rfl
  rfl
 have hd:decide ((i:Int) ≥ kl.length)=true:=by simp;omega
 have hg:getA kl i=AZero:=by unfold getA;rw[List.getD_eq_getElem?_getD,List.getElem?_eq_none (by omega)];rfl
 rw[hg]
 (have x0_:=@Ans.c.eq_1;(refine gA ?_);all_goals clear x0_)
 (refine aK ?_ ?_)
 ·rfl
 rfl
def zFS(nl cl hc hh:Bool)(kl:List Ans)(ns:List (List Tree))(i:Nat)(hk:∀a ∈ kl,AOK a):∃x:Ans,Om CC 117 [.t (.agg [.sl nl cl (kl.map Ans.c),.sl hc hh ns]),.t (.int .i64 (i:Int))] []=some (.val (.t (.agg [.int .u8 x.v.k,.int .i64 x.v.n,.str x.v.s,.int .i64 x.e])),[])∧VOK x.v:=by
 refine zJ yAd rfl ?_
 (have F_:=c5 zF zG zP zE (c5 zC zB zR kA (c5 xN kC kE yFs (c3 zGA zEB @zBZ)));show W CC 0 26 (zA 117) _ ⟨[(0,_),(1,_)],[]⟩ _)
 have hg:=zDJ nl cl hc hh kl ns i;have hp:=zBK hk i;clear hk
 (repeat' first|refine gA ?_|refine gT ?_ ?_<;>intro hv|fail)
 all_goals refine aJ ?_<;>(first|exact⟨getA kl i,⟨rfl,rfl⟩,hp⟩|exact⟨Fail 8,⟨rfl,rfl⟩,zEw _⟩)
def zHL(l:List Val)(nl cl:Bool)(hl:l.length<9223372036854775808):∃x:Bool,Om CC 168 [.t (.sl nl cl (l.map Val.c))] []=some (.val (.t (.bool x)),[])∧True:=by
 refine zJ zZK rfl ?_
 (have F_:=c5 zF zG zE zC (c3 zB xW yFc);show W CC 0 15 (zA 168) _ ⟨[(0,_)],[]⟩ _)
 (refine gA ?_)
 refine yE (α:=Nat) (fun i=>⟨[(5,.t (.sl nl cl (l.map Val.c))),(6,.t (.int .i64 l.length)),(7,.t (.int .i64 i))],[]⟩) (fun i=>l.length - i) (fun i=>i≤l.length) 0 (by kernel_rfl) (Nat.zero_le _) ?_;intro i hi
 by_cases hy:i<l.length
 ·have hw:=wI64 i (by omega);have he:l[i]?=some l[i]:=List.getElem?_eq_getElem hy;have hd:decide ((i:Int)<l.length)=true:=by simpa using hy
  generalize l[i]=v at he
  (repeat' first|refine gA ?_|refine gT ?_ ?_<;>intro hv|fail)
  all_goals first
   |((refine aJ ?_);exact⟨_,⟨rfl,rfl⟩,trivial⟩)
   |exact zD (i+1) (by omega) (by omega) (by kernel_rfl)
 have hd:decide ((i:Int)<l.length)=false:=by simpa using hy
 (refine gA ?_)
 (refine aJ ?_)
 exact⟨_,⟨rfl,rfl⟩,trivial⟩
def zHo(a b:Int)(l:List Val)(nl cl:Bool)(hl:l.length<9223372036854775808):∃x:Bool,Om CC 170 [.t (.int .u8 a),.t (.int .u8 b),.t (.sl nl cl (l.map Val.c))] []=some (.val (.t (.bool x)),[])∧True:=by
 refine zJ zZB rfl ?_
 (have F_:=c5 zF zG zE zC (c3 zB xW yG5);show W CC 0 31 (zA 170) _ ⟨[(0,_),(1,_),(2,_)],[]⟩ _)
 (refine gA ?_)
 refine yE (α:=Nat) (fun i=>⟨[(0,.t (.int .u8 a)),(1,.t (.int .u8 b)),(9,.t (.sl nl cl (l.map Val.c))),(10,.t (.int .i64 l.length)),(11,.t (.int .i64 i))],[]⟩) (fun i=>l.length - i) (fun i=>i≤l.length) 0 (by kernel_rfl) (Nat.zero_le _) ?_;intro i hi
 by_cases hy:i<l.length
 ·have hw:=wI64 i (by omega);have he:l[i]?=some l[i]:=List.getElem?_eq_getElem hy;have hd:decide ((i:Int)<l.length)=true:=by simpa using hy
  generalize l[i]=v at he
  (repeat' first|refine gA ?_|refine gT ?_ ?_<;>intro hv|fail)
  all_goals first
   |((refine aJ ?_);exact⟨_,⟨rfl,rfl⟩,trivial⟩)
   |exact zD (i+1) (by omega) (by omega) (by kernel_rfl)
 have hd:decide ((i:Int)<l.length)=false:=by simpa using hy
 (refine gA ?_)
 (refine aJ ?_)
 exact⟨_,⟨rfl,rfl⟩,trivial⟩
def zSy(nl cl hc hh:Bool)(kl:List Ans)(ns:List (List Tree))(hk:∀a ∈ kl,AOK a):∃x:Ans,Om CC 146 [.t (.agg [.sl nl cl (kl.map Ans.c),.sl hc hh ns])] []=some (.val (.t (.agg [.int .u8 x.v.k,.int .i64 x.v.n,.str x.v.s,.int .i64 x.e])),[])∧VOK x.v:=by
 refine zJ zZv rfl ?_
 (have F_:=c5 zF zG zP zE (c5 zC zB zR kA (c5 xN kC kE yE8 (c2 zGA zOV)));show W CC 0 26 (zA 146) _ ⟨[(0,_)],[]⟩ _)
 obtain⟨t,ht,hD⟩:=zFS nl cl hc hh kl ns 0 hk;have g1:=zDJ nl cl hc hh kl ns 1;have g2:=zDJ nl cl hc hh kl ns 2;have p1:=zBK hk 1;have p2:=zBK hk 2;clear hk;simp only[Int.ofNat_eq_natCast,Int.natCast_zero,Int.natCast_one,Int.cast_ofNat_Int] at ht g1 g2;have ht:Om CC 117 [.t (.agg [.sl nl cl (kl.map Ans.c),.sl hc hh ns]),.t (.int .i64 0)] []=_:=ht;have g1:Om CC 164 [.t (.agg [.sl nl cl (kl.map Ans.c),.sl hc hh ns]),.t (.int .i64 1)] []=_:=g1;have g2:Om CC 164 [.t (.agg [.sl nl cl (kl.map Ans.c),.sl hc hh ns]),.t (.int .i64 2)] []=_:=g2
 (repeat' first|refine gA ?_|refine gT ?_ ?_<;>intro hv|fail)
 all_goals refine aJ ?_<;>(first|exact⟨t,⟨rfl,rfl⟩,hD⟩|exact⟨getA kl 1,⟨rfl,rfl⟩,p1⟩|exact⟨getA kl 2,⟨rfl,rfl⟩,p2⟩)
def xaY:=c5 zF zG zP zE (c5 zC zB zR kA (c5 xN kC kE xW (c3 zBz zK1 zGA)))
def zFZ (f:Nat) (hb:yY Tryz.prog f=true) (hI:∀x,CC.prim f x=none) (nl cl hc hh:Bool) (kl:List Ans) (ns:List (List Tree)) (n:Nat) (hn:n<4294967295) (hk:∀a ∈ kl,AOK a)
  (hq:∀(l:List Val) (x y:Bool),l.length=n→(∀v ∈ l,VOK v)→∃a:Ans,Om CC f [.t (.sl x y (l.map Val.c))] []=some (.val (.t (.agg [.int .u8 a.v.k,.int .i64 a.v.n,.str a.v.s,.int .i64 a.e])),[])∧AOK a) :
  ∃x:Ans,Om CC 133 [.t (.agg [.sl nl cl (kl.map Ans.c),.sl hc hh ns]),.t (.int .i64 (n:Int)),.t (.fn f)] []=some (.val (.t (.agg [.int .u8 x.v.k,.int .i64 x.v.n,.str x.v.s,.int .i64 x.e])),[])∧AOK x:=by
 refine jJ zJF rfl ?_
 (have F_:=xaY;show W CC 0 30 (zA 133) _ ⟨[(0,_),(1,_),(2,_)],[]⟩ _)
 (refine gA ?_)
 refine yE (α:=Nat×Bool×List Val) (fun a=>⟨[(2,.t (.fn f)),(3,.box 0 0),(6,.box 1 0),(7,match a.2.1 with|true=>.hs 2 0|false=>.t (.sl true true [])),(10,.t (.int .i64 (n:Int))),(11,.t (.int .i64 a.1))],
   match a.2.1 with|true=>[.box [.t (.sl nl cl (kl.map Ans.c)),.t (.sl hc hh ns)],.box (AZero.c.map .t),.arr 3 0 false (a.2.2.map Val.c)]|false=>[.box [.t (.sl nl cl (kl.map Ans.c)),.t (.sl hc hh ns)],.box (AZero.c.map .t)]⟩)
  (fun a=>n - a.1) (fun a=>a.1≤n∧a.2.2.length=a.1∧(a.2.1=false→a.2.2=[])∧∀v ∈ a.2.2,VOK v) (0,false,[]) (by kernel_rfl) ⟨Nat.zero_le _,rfl,fun _=>rfl,fun v hv=>(by cases hv)⟩ ?_
 rintro⟨i,st,hA⟩ ⟨hi,ho,hj,hm⟩
 try dsimp only at hi ho hj hm
 have hJ:lens 3 (hA.map Val.c)=true:=qM Val.c 3 (fun a=>rfl) hA;simp only[AZero,Zero,Ans.c,List.map_cons,List.map_nil]
 by_cases hy:i<n
 ·have hw:=wI64 i (by omega);have hd:decide ((i:Int)<(n:Int))=true:=by simpa using hy
  have hL:decide (i+1<4294967296)=true:=by simp;omega
  have hg:=zDJ nl cl hc hh kl ns i;have hp:=zBK hk i;generalize getA kl i=g at hg hp;clear hk hq;cases st with
  |true =>
   clear hj
   (repeat' first|refine gA ?_|refine gT ?_ ?_<;>intro hv|fail)
   ·(refine aJ ?_)
    exact⟨g,⟨rfl,rfl⟩,hp⟩
   refine zD (i+1,true,hA++[g.v]) (by first|omega|(dsimp only;omega)) ⟨by first|omega|(dsimp only;omega),by simp [ho],fun h=>(by cases h),fun x hx=>?_⟩ (by(have X_:=c3 @mapA @AZero.eq_1 (c2 @Zero.eq_1 @Ans.c.eq_1);exact aTdX));rcases List.mem_append.1 hx with h|h
   ·exact hm x h
   rw[List.mem_singleton.1 h];exact hp
  |false =>
   have h0:=hj rfl;subst h0;simp at ho;subst ho;clear hj hm
   (repeat' first|refine gA ?_|refine gT ?_ ?_<;>intro hv|fail)
   ·(refine aJ ?_)
    exact⟨g,⟨rfl,rfl⟩,hp⟩
   refine zD (1,true,[g.v]) (by first|omega|(dsimp only;omega)) ⟨by first|omega|(dsimp only;omega),by simp,fun h=>(by cases h),fun x hx=>?_⟩ (by(have X_:=c3 @mapA @AZero.eq_1 (c2 @Zero.eq_1 @Ans.c.eq_1);exact aTdX));rw[List.mem_singleton.1 hx];exact hp
 have hd:decide ((i:Int)<(n:Int))=false:=by simpa using hy
 cases st with
 |true =>
  obtain⟨a,ha,hC⟩:=hq hA false false (by omega) hm;clear hq hm hk hj
  (refine gA ?_)
  (refine aJ ?_)
  exact⟨a,⟨rfl,rfl⟩,hC⟩
 |false =>
  have h0:=hj rfl;subst h0;obtain⟨a,ha,hC⟩:=hq [] true true (by omega) (fun v hv=>(by cases hv));simp only[List.map_nil] at ha;clear hq hm hk hj
  (refine gA ?_)
  (refine aJ ?_)
  exact⟨a,⟨rfl,rfl⟩,hC⟩
def zNi (P:Ans→Prop) (hP:∀a,AOK a→a.e≠0→P a) (f:Nat) (hb:yY Tryz.prog f=true) (hI:∀x,CC.prim f x=none) (w00:Tree) (nl cl hc hh:Bool) (kl:List Ans) (ns:List (List Tree)) (n:Nat) (hn:n<4294967295) (hk:∀a ∈ kl,AOK a)
  (hq:∀(l:List Val) (x y:Bool),l.length=n→(∀v ∈ l,VOK v)→∃a:Ans,Om CC f [.t (.sl x y (l.map Val.c)),.box 0 0] [.box [.t w00]]=some (.val (.t (.agg [.int .u8 a.v.k,.int .i64 a.v.n,.str a.v.s,.int .i64 a.e])),[.box [.t w00]])∧P a) :
  ∃x:Ans,Om CC 133 [.t (.agg [.sl nl cl (kl.map Ans.c),.sl hc hh ns]),.t (.int .i64 (n:Int)),.fn f [] [.box 0 0]] [.box [.t w00]]=some (.val (.t (.agg [.int .u8 x.v.k,.int .i64 x.v.n,.str x.v.s,.int .i64 x.e])),[.box [.t w00]])∧P x:=by
 refine jJ zJF rfl ?_
 (have F_:=xaY;show W CC 1 30 (zA 133) _ ⟨[(0,_),(1,_),(2,_)],[_]⟩ _)
 (refine gA ?_)
 refine yE (α:=Nat×Bool×List Val) (fun a=>⟨[(2,.fn f [] [.box 0 0]),(3,.box 1 0),(6,.box 2 0),(7,match a.2.1 with|true=>.hs 3 0|false=>.t (.sl true true [])),(10,.t (.int .i64 (n:Int))),(11,.t (.int .i64 a.1))],
   match a.2.1 with|true=>[.box [.t w00],.box [.t (.sl nl cl (kl.map Ans.c)),.t (.sl hc hh ns)],.box (AZero.c.map .t),.arr 3 0 false (a.2.2.map Val.c)]|false=>[.box [.t w00],.box [.t (.sl nl cl (kl.map Ans.c)),.t (.sl hc hh ns)],.box (AZero.c.map .t)]⟩)
  (fun a=>n - a.1) (fun a=>a.1≤n∧a.2.2.length=a.1∧(a.2.1=false→a.2.2=[])∧∀v ∈ a.2.2,VOK v) (0,false,[]) (by kernel_rfl) ⟨Nat.zero_le _,rfl,fun _=>rfl,fun v hv=>(by cases hv)⟩ ?_
 rintro⟨i,st,hA⟩ ⟨hi,ho,hj,hm⟩
 try dsimp only at hi ho hj hm
 have hJ:lens 3 (hA.map Val.c)=true:=qM Val.c 3 (fun a=>rfl) hA;simp only[AZero,Zero,Ans.c,List.map_cons,List.map_nil]
 by_cases hy:i<n
 ·have hw:=wI64 i (by omega);have hd:decide ((i:Int)<(n:Int))=true:=by simpa using hy
  have hL:decide (i+1<4294967296)=true:=by simp;omega
  have hg:=zDJ nl cl hc hh kl ns i;have hp:=zBK hk i;generalize getA kl i=g at hg hp;clear hk hq;cases st with
  |true =>
   clear hj
   (repeat' first|refine gA ?_|refine gT ?_ ?_<;>intro hv|fail)
   ·(refine aJ ?_)
    exact⟨g,⟨rfl,rfl⟩,hP g hp (by clear F_ hP;intro h0;simp_all)⟩
   refine zD (i+1,true,hA++[g.v]) (by first|omega|(dsimp only;omega)) ⟨by first|omega|(dsimp only;omega),by simp [ho],fun h=>(by cases h),fun x hx=>?_⟩ (by(have X_:=c3 @mapA @AZero.eq_1 (c2 @Zero.eq_1 @Ans.c.eq_1);exact aTdX));rcases List.mem_append.1 hx with h|h
   ·exact hm x h
   rw[List.mem_singleton.1 h];exact hp
  |false =>
   have h0:=hj rfl;subst h0;simp at ho;subst ho;clear hj hm
   (repeat' first|refine gA ?_|refine gT ?_ ?_<;>intro hv|fail)
   ·(refine aJ ?_)
    exact⟨g,⟨rfl,rfl⟩,hP g hp (by clear F_ hP;intro h0;simp_all)⟩
   refine zD (1,true,[g.v]) (by first|omega|(dsimp only;omega)) ⟨by first|omega|(dsimp only;omega),by simp,fun h=>(by cases h),fun x hx=>?_⟩ (by(have X_:=c3 @mapA @AZero.eq_1 (c2 @Zero.eq_1 @Ans.c.eq_1);exact aTdX));rw[List.mem_singleton.1 hx];exact hp
 have hd:decide ((i:Int)<(n:Int))=false:=by simpa using hy
 cases st with
 |true =>
  obtain⟨a,ha,hC⟩:=hq hA false false (by omega) hm;clear hq hm hk hj
  (refine gA ?_)
  (refine aJ ?_)
  exact⟨a,⟨rfl,rfl⟩,hC⟩
 |false =>
  have h0:=hj rfl;subst h0;obtain⟨a,ha,hC⟩:=hq [] true true (by omega) (fun v hv=>(by cases hv));simp only[List.map_nil] at ha;clear hq hm hk hj
  (refine gA ?_)
  (refine aJ ?_)
  exact⟨a,⟨rfl,rfl⟩,hC⟩
def zUY (f:Nat) (hb:yY Tryz.prog f=true) (hI:∀x,CC.prim f x=none) (w00 w10:Tree) (nl cl hc hh:Bool) (kl:List Ans) (ns:List (List Tree)) (n:Nat) (hn:n<4294967295) (hk:∀a ∈ kl,AOK a)
  (hq:∀(l:List Val) (x y:Bool),l.length=n→(∀v ∈ l,VOK v)→∃a:Ans,Om CC f [.t (.sl x y (l.map Val.c)),.box 0 0,.box 1 0] [.box [.t w00],.box [.t w10]]=some (.val (.t (.agg [.int .u8 a.v.k,.int .i64 a.v.n,.str a.v.s,.int .i64 a.e])),[.box [.t w00],.box [.t w10]])∧AOK a) :
  ∃x:Ans,Om CC 133 [.t (.agg [.sl nl cl (kl.map Ans.c),.sl hc hh ns]),.t (.int .i64 (n:Int)),.fn f [] [.box 0 0,.box 1 0]] [.box [.t w00],.box [.t w10]]=some (.val (.t (.agg [.int .u8 x.v.k,.int .i64 x.v.n,.str x.v.s,.int .i64 x.e])),[.box [.t w00],.box [.t w10]])∧AOK x:=by
 refine jJ zJF rfl ?_
 (have F_:=xaY;show W CC 2 30 (zA 133) _ ⟨[(0,_),(1,_),(2,_)],[_,_]⟩ _)
 (refine gA ?_)
 refine yE (α:=Nat×Bool×List Val) (fun a=>⟨[(2,.fn f [] [.box 0 0,.box 1 0]),(3,.box 2 0),(6,.box 3 0),(7,match a.2.1 with|true=>.hs 4 0|false=>.t (.sl true true [])),(10,.t (.int .i64 (n:Int))),(11,.t (.int .i64 a.1))],
   match a.2.1 with|true=>[.box [.t w00],.box [.t w10],.box [.t (.sl nl cl (kl.map Ans.c)),.t (.sl hc hh ns)],.box (AZero.c.map .t),.arr 3 0 false (a.2.2.map Val.c)]|false=>[.box [.t w00],.box [.t w10],.box [.t (.sl nl cl (kl.map Ans.c)),.t (.sl hc hh ns)],.box (AZero.c.map .t)]⟩)
  (fun a=>n - a.1) (fun a=>a.1≤n∧a.2.2.length=a.1∧(a.2.1=false→a.2.2=[])∧∀v ∈ a.2.2,VOK v) (0,false,[]) (by kernel_rfl) ⟨Nat.zero_le _,rfl,fun _=>rfl,fun v hv=>(by cases hv)⟩ ?_
 rintro⟨i,st,hA⟩ ⟨hi,ho,hj,hm⟩
 try dsimp only at hi ho hj hm
 have hJ:lens 3 (hA.map Val.c)=true:=qM Val.c 3 (fun a=>rfl) hA;simp only[AZero,Zero,Ans.c,List.map_cons,List.map_nil]
 by_cases hy:i<n
 ·have hw:=wI64 i (by omega);have hd:decide ((i:Int)<(n:Int))=true:=by simpa using hy
  have hL:decide (i+1<4294967296)=true:=by simp;omega
  have hg:=zDJ nl cl hc hh kl ns i;have hp:=zBK hk i;generalize getA kl i=g at hg hp;clear hk hq;cases st with
  |true =>
   clear hj
   (repeat' first|refine gA ?_|refine gT ?_ ?_<;>intro hv|fail)
   ·(refine aJ ?_)
    exact⟨g,⟨rfl,rfl⟩,hp⟩
   refine zD (i+1,true,hA++[g.v]) (by first|omega|(dsimp only;omega)) ⟨by first|omega|(dsimp only;omega),by simp [ho],fun h=>(by cases h),fun x hx=>?_⟩ (by(have X_:=c3 @mapA @AZero.eq_1 (c2 @Zero.eq_1 @Ans.c.eq_1);exact aTdX));rcases List.mem_append.1 hx with h|h
   ·exact hm x h
   rw[List.mem_singleton.1 h];exact hp
  |false =>
   have h0:=hj rfl;subst h0;simp at ho;subst ho;clear hj hm
   (repeat' first|refine gA ?_|refine gT ?_ ?_<;>intro hv|fail)
   ·(refine aJ ?_)
    exact⟨g,⟨rfl,rfl⟩,hp⟩
   refine zD (1,true,[g.v]) (by first|omega|(dsimp only;omega)) ⟨by first|omega|(dsimp only;omega),by simp,fun h=>(by cases h),fun x hx=>?_⟩ (by(have X_:=c3 @mapA @AZero.eq_1 (c2 @Zero.eq_1 @Ans.c.eq_1);exact aTdX));rw[List.mem_singleton.1 hx];exact hp
 have hd:decide ((i:Int)<(n:Int))=false:=by simpa using hy
 cases st with
 |true =>
  obtain⟨a,ha,hC⟩:=hq hA false false (by omega) hm;clear hq hm hk hj
  (refine gA ?_)
  (refine aJ ?_)
  exact⟨a,⟨rfl,rfl⟩,hC⟩
 |false =>
  have h0:=hj rfl;subst h0;obtain⟨a,ha,hC⟩:=hq [] true true (by omega) (fun v hv=>(by cases hv));simp only[List.map_nil] at ha;clear hq hm hk hj
  (refine gA ?_)
  (refine aJ ?_)
  exact⟨a,⟨rfl,rfl⟩,hC⟩
def zS7 (P:Ans→Prop) (hP:∀a,AOK a→a.e≠0→P a) (f:Nat) (hb:yY Tryz.prog f=true) (hI:∀x,CC.prim f x=none) (w00 w01 w10:Tree) (nl cl hc hh:Bool) (kl:List Ans) (ns:List (List Tree)) (n:Nat) (hn:n<4294967295) (hk:∀a ∈ kl,AOK a)
  (hq:∀(l:List Val) (x y:Bool),l.length=n→(∀v ∈ l,VOK v)→∃a:Ans,Om CC f [.t (.sl x y (l.map Val.c)),.box 0 0,.box 1 0] [.box [.t w00,.t w01],.box [.t w10]]=some (.val (.t (.agg [.int .u8 a.v.k,.int .i64 a.v.n,.str a.v.s,.int .i64 a.e])),[.box [.t w00,.t w01],.box [.t w10]])∧P a) :
  ∃x:Ans,Om CC 133 [.t (.agg [.sl nl cl (kl.map Ans.c),.sl hc hh ns]),.t (.int .i64 (n:Int)),.fn f [] [.box 0 0,.box 1 0]] [.box [.t w00,.t w01],.box [.t w10]]=some (.val (.t (.agg [.int .u8 x.v.k,.int .i64 x.v.n,.str x.v.s,.int .i64 x.e])),[.box [.t w00,.t w01],.box [.t w10]])∧P x:=by
 refine jJ zJF rfl ?_
 (have F_:=xaY;show W CC 2 30 (zA 133) _ ⟨[(0,_),(1,_),(2,_)],[_,_]⟩ _)
 (refine gA ?_)
 refine yE (α:=Nat×Bool×List Val) (fun a=>⟨[(2,.fn f [] [.box 0 0,.box 1 0]),(3,.box 2 0),(6,.box 3 0),(7,match a.2.1 with|true=>.hs 4 0|false=>.t (.sl true true [])),(10,.t (.int .i64 (n:Int))),(11,.t (.int .i64 a.1))],
   match a.2.1 with|true=>[.box [.t w00,.t w01],.box [.t w10],.box [.t (.sl nl cl (kl.map Ans.c)),.t (.sl hc hh ns)],.box (AZero.c.map .t),.arr 3 0 false (a.2.2.map Val.c)]|false=>[.box [.t w00,.t w01],.box [.t w10],.box [.t (.sl nl cl (kl.map Ans.c)),.t (.sl hc hh ns)],.box (AZero.c.map .t)]⟩)
  (fun a=>n - a.1) (fun a=>a.1≤n∧a.2.2.length=a.1∧(a.2.1=false→a.2.2=[])∧∀v ∈ a.2.2,VOK v) (0,false,[]) (by kernel_rfl) ⟨Nat.zero_le _,rfl,fun _=>rfl,fun v hv=>(by cases hv)⟩ ?_
 rintro⟨i,st,hA⟩ ⟨hi,ho,hj,hm⟩
 try dsimp only at hi ho hj hm
 have hJ:lens 3 (hA.map Val.c)=true:=qM Val.c 3 (fun a=>rfl) hA;simp only[AZero,Zero,Ans.c,List.map_cons,List.map_nil]
 by_cases hy:i<n
 ·have hw:=wI64 i (by omega);have hd:decide ((i:Int)<(n:Int))=true:=by simpa using hy
  have hL:decide (i+1<4294967296)=true:=by simp;omega
  have hg:=zDJ nl cl hc hh kl ns i;have hp:=zBK hk i;generalize getA kl i=g at hg hp;clear hk hq;cases st with
  |true =>
   clear hj
   (repeat' first|refine gA ?_|refine gT ?_ ?_<;>intro hv|fail)
   ·(refine aJ ?_)
    exact⟨g,⟨rfl,rfl⟩,hP g hp (by clear F_ hP;intro h0;simp_all)⟩
   refine zD (i+1,true,hA++[g.v]) (by first|omega|(dsimp only;omega)) ⟨by first|omega|(dsimp only;omega),by simp [ho],fun h=>(by cases h),fun x hx=>?_⟩ (by(have X_:=c3 @mapA @AZero.eq_1 (c2 @Zero.eq_1 @Ans.c.eq_1);exact aTdX));rcases List.mem_append.1 hx with h|h
   ·exact hm x h
   rw[List.mem_singleton.1 h];exact hp
  |false =>
   have h0:=hj rfl;subst h0;simp at ho;subst ho;clear hj hm
   (repeat' first|refine gA ?_|refine gT ?_ ?_<;>intro hv|fail)
   ·(refine aJ ?_)
    exact⟨g,⟨rfl,rfl⟩,hP g hp (by clear F_ hP;intro h0;simp_all)⟩
   refine zD (1,true,[g.v]) (by first|omega|(dsimp only;omega)) ⟨by first|omega|(dsimp only;omega),by simp,fun h=>(by cases h),fun x hx=>?_⟩ (by(have X_:=c3 @mapA @AZero.eq_1 (c2 @Zero.eq_1 @Ans.c.eq_1);exact aTdX));rw[List.mem_singleton.1 hx];exact hp
 have hd:decide ((i:Int)<(n:Int))=false:=by simpa using hy
 cases st with
 |true =>
  obtain⟨a,ha,hC⟩:=hq hA false false (by omega) hm;clear hq hm hk hj
  (refine gA ?_)
  (refine aJ ?_)
  exact⟨a,⟨rfl,rfl⟩,hC⟩
 |false =>
  have h0:=hj rfl;subst h0;obtain⟨a,ha,hC⟩:=hq [] true true (by omega) (fun v hv=>(by cases hv));simp only[List.map_nil] at ha;clear hq hm hk hj
  (refine gA ?_)
  (refine aJ ?_)
  exact⟨a,⟨rfl,rfl⟩,hC⟩
def yU(b:Bool):List Tree:=[.bool b]
def zPo (f:Nat) (hb:yY Tryz.prog f=true) (hI:∀x,CC.prim f x=none) (F:Val→Val→Val) (hF:∀a b,VOK a→VOK b→Om CC f [.t (.sl false false [[.int .u8 a.k,.int .i64 a.n,.str a.s],[.int .u8 b.k,.int .i64 b.n,.str b.s]])] []=some (.val (.t (.agg [.int .u8 (F a b).k,.int .i64 (F a b).n,.str (F a b).s])),[]))
  (hN:∀a b,VOK a→VOK b→VOK (F a b)) (e:Int) (nl cl hc hh:Bool) (kl:List Ans) (nb:List Bool) (hk:∀a ∈ kl,AOK a) :
  ∃x:Ans,Om CC 116 [.t (.agg [.sl nl cl (kl.map Ans.c),.sl hc hh (nb.map yU)]),.t (.int .i64 e),.t (.fn f)] []=some (.val (.t (.agg [.int .u8 x.v.k,.int .i64 x.v.n,.str x.v.s,.int .i64 x.e])),[])∧AOK x:=by
 refine zJ zZQ rfl ?_
 (have F_:=c5 zF zG zP zE (c5 zC zB zR zHX (c5 kA xN kC kE (c3 xW yBS zOV)));show W CC 0 42 (zA 116) _ ⟨[(0,_),(1,_),(2,_)],[]⟩ _)
 obtain⟨t,ht,hD⟩:=zFS nl cl hc hh kl (nb.map yU) 0 hk;obtain⟨u,hu,hM⟩:=zFS nl cl hc hh kl (nb.map yU) 1 hk;have ht:Om CC 117 [.t (.agg [.sl nl cl (kl.map Ans.c),.sl hc hh (nb.map yU)]),.t (.int .i64 0)] []=_:=ht;have hu:Om CC 117 [.t (.agg [.sl nl cl (kl.map Ans.c),.sl hc hh (nb.map yU)]),.t (.int .i64 1)] []=_:=hu;have hf:=hF t.v u.v hD hM;have hQ:=hN t.v u.v hD hM;clear hk hF hN
 (repeat' first|refine gA ?_|refine gT ?_ ?_<;>intro hv|fail)
 all_goals refine aJ ?_<;>(first|exact⟨t,⟨rfl,rfl⟩,hD⟩|exact⟨u,⟨rfl,rfl⟩,hM⟩|exact⟨⟨F t.v u.v,0⟩,⟨rfl,rfl⟩,hQ⟩)
def zQH(i:Nat)(k:Tree)(hc hh:Bool)(nb:List Bool):∃r:Bool,Om CC 167 [.t (.int .i64 (i:Int)),.box 0 0] [.box [.t k,.t (.sl hc hh (nb.map yU))]]=some (.val (.t (.bool r)),[.box [.t k,.t (.sl hc hh (nb.map yU))]])∧True:=by
 refine jJ yA8 rfl ?_
 (have F_:=c5 zF zG zP zE (c5 zC zB zR kA (c3 xN kC (c2 kE yF3)));show W CC 1 16 (zA 167) _ ⟨[(0,_),(1,_)],[_]⟩ _)
 by_cases hi:i<nb.length
 ·have hd:decide ((i:Int)<nb.length)=true:=by simpa using hi
  have he:nb[i]?=some nb[i]:=List.getElem?_eq_getElem hi
  (have x0_:=@yU.eq_1;(refine gA ?_);all_goals clear x0_)
  all_goals refine aJ ?_<;>exact⟨_,⟨rfl,rfl⟩,trivial⟩
 have hd:decide ((i:Int)<nb.length)=false:=by simpa using hi
 (have x0_:=@yU.eq_1;(refine gA ?_);all_goals clear x0_)
 all_goals refine aJ ?_<;>exact⟨_,⟨rfl,rfl⟩,trivial⟩
def yA4 (a b:Val) (x y sm:Bool) (k:Tree) (hc hh:Bool) (nb:List Bool) (ha:VOK a) (hb:VOK b) :
  ∃x':Ans,Om CC 165 [.t (.sl x y [[.int .u8 a.k,.int .i64 a.n,.str a.s],[.int .u8 b.k,.int .i64 b.n,.str b.s]]),.box 0 0,.box 1 0] [.box [.t k,.t (.sl hc hh (nb.map yU))],.box [.t (.bool sm)]] =
   some (.val (.t (.agg [.int .u8 x'.v.k,.int .i64 x'.v.n,.str x'.v.s,.int .i64 x'.e])),[.box [.t k,.t (.sl hc hh (nb.map yU))],.box [.t (.bool sm)]])∧AOK x'∧TB x':=by
 refine jJ yBv rfl ?_
 (have F_:=c5 zF zG zP zE (c5 zC zB zR xN (c5 xW yEg yGz zT5 (c5 zEa zOv zEB @zJO (c3 @qD @zBZ (c2 @uP @zDY)))));show W CC 2 53 (zA 165) _ ⟨[(0,_),(1,_),(2,_)],[_,_]⟩ _)
 obtain⟨r0,h0,_⟩:=zQH 0 k hc hh nb;obtain⟨r1,h1,_⟩:=zQH 1 k hc hh nb;have h0:Om CC 167 [.t (.int .i64 0),.box 0 0] _=_:=h0;have h1:Om CC 167 [.t (.int .i64 1),.box 0 0] _=_:=h1;obtain⟨z,hz,_⟩:=zHL [a,b] x y (by simp);simp only[List.map_cons,List.map_nil,Val.c] at hz;clear ha hb
 (repeat' first|refine gA ?_|refine gT ?_ ?_<;>intro hv|fail)
 all_goals refine aJ ?_<;>(first|exact⟨⟨uF _,0⟩,⟨rfl,rfl⟩,zCz _,zKl _⟩|exact⟨AZero,⟨rfl,rfl⟩,yX,zB7⟩|exact⟨Fail 8,⟨rfl,rfl⟩,zEw _,zTJ _ (by decide)⟩)
def zL5(nl cl hc hh:Bool)(kl:List Ans)(nb:List Bool)(hk:∀a ∈ kl,AOK a)(sm:Bool):∃x:Ans,Om CC 118 [.t (.agg [.sl nl cl (kl.map Ans.c),.sl hc hh (nb.map yU)]),.t (.bool sm)] []=some (.val (.t (.agg [.int .u8 x.v.k,.int .i64 x.v.n,.str x.v.s,.int .i64 x.e])),[])∧AOK x∧TB x:=by
 refine zJ yAL rfl ?_
 (have F_:=c5 zF zG zP zE (c5 zC zB zR kA (c5 xN kC kE zBz (c2 yGS zIZ)));show W CC 0 8 (zA 118) _ ⟨[(0,_),(1,_)],[]⟩ _)
 obtain⟨t,ht,hD⟩:=zS7 (fun a=>AOK a∧TB a) (fun a h he=>⟨h,h,.inl he⟩) 165 yFn (fun x=>zX _ x (by decide)) (.sl nl cl (kl.map Ans.c)) (.sl hc hh (nb.map yU)) (.bool sm) nl cl hc hh kl (nb.map yU) 2 (by decide) hk (fun l x y hl hv=>by
  match l,hl,hv with
  |[a,b],_,hv =>
   obtain⟨r,hr,hE⟩:=yA4 a b x y sm (.sl nl cl (kl.map Ans.c)) hc hh nb (hv a (by simp)) (hv b (by simp));exact⟨r,hr,hE⟩)
 have ht:Om CC 133 [.t (.agg [.sl nl cl (kl.map Ans.c),.sl hc hh (nb.map yU)]),.t (.int .i64 2),.fn 165 [] [.box 0 0,.box 1 0]] _=_:=ht;clear hk
 (refine gA ?_)
 all_goals refine aJ ?_<;>exact⟨t,⟨rfl,rfl⟩,hD⟩
def zNp(c:Int):∃x:Bool,Om CC 120 [.t (.int .i64 c)] []=some (.val (.t (.bool x)),[])∧(True):=by
 refine zJ zZM rfl ?_
 (have F_:=c2 zG yHh;show W CC 0 5 (zA 120) _ ⟨[(0,_)],[]⟩ _)
 (refine gA ?_)
 all_goals refine aJ ?_<;>exact⟨_,⟨rfl,rfl⟩,by trivial⟩
noncomputable def zYo(c:Int):Bool:=(zNp c).choose
def zV3(c:Int):Om CC 120 [.t (.int .i64 c)] []=some (.val (.t (.bool (zYo c))),[]):=(zNp c).choose_spec.1
def zOc(c:Int):∃x:Bool,Om CC 121 [.t (.int .i64 c)] []=some (.val (.t (.bool x)),[])∧(True):=by
 refine zJ yAc rfl ?_
 (have F_:=c2 zG yFh;show W CC 0 5 (zA 121) _ ⟨[(0,_)],[]⟩ _)
 (refine gA ?_)
 all_goals refine aJ ?_<;>exact⟨_,⟨rfl,rfl⟩,by trivial⟩
noncomputable def zXL(c:Int):Bool:=(zOc c).choose
def zXr(c:Int):Om CC 121 [.t (.int .i64 c)] []=some (.val (.t (.bool (zXL c))),[]):=(zOc c).choose_spec.1
def zNs(c:Int):∃x:Bool,Om CC 122 [.t (.int .i64 c)] []=some (.val (.t (.bool x)),[])∧(True):=by
 refine zJ yBc rfl ?_
 (have F_:=c2 zG yCq;show W CC 0 5 (zA 122) _ ⟨[(0,_)],[]⟩ _)
 (refine gA ?_)
 all_goals refine aJ ?_<;>exact⟨_,⟨rfl,rfl⟩,by trivial⟩
noncomputable def zYf(c:Int):Bool:=(zNs c).choose
def zXh(c:Int):Om CC 122 [.t (.int .i64 c)] []=some (.val (.t (.bool (zYf c))),[]):=(zNs c).choose_spec.1
def zNZ(c:Int):∃x:Bool,Om CC 123 [.t (.int .i64 c)] []=some (.val (.t (.bool x)),[])∧(True):=by
 refine zJ yAr rfl ?_
 (have F_:=c2 zG yCE;show W CC 0 5 (zA 123) _ ⟨[(0,_)],[]⟩ _)
 (refine gA ?_)
 all_goals refine aJ ?_<;>exact⟨_,⟨rfl,rfl⟩,by trivial⟩
noncomputable def zXZ(c:Int):Bool:=(zNZ c).choose
def zWy(c:Int):Om CC 123 [.t (.int .i64 c)] []=some (.val (.t (.bool (zXZ c))),[]):=(zNZ c).choose_spec.1
def zWZ (g:Nat) (hg:yY Tryz.prog g=true) (hH:∀x,CC.prim g x=none) (G:Int→Bool) (hG:∀c,Om CC g [.t (.int .i64 c)] []=some (.val (.t (.bool (G c))),[])) (a b:Val) (x y:Bool) :
  ∃x':Ans,Om CC 169 [.t (.sl x y [[.int .u8 a.k,.int .i64 a.n,.str a.s],[.int .u8 b.k,.int .i64 b.n,.str b.s]]),.box 0 0] [.box [.t (.fn g)]]=some (.val (.t (.agg [.int .u8 x'.v.k,.int .i64 x'.v.n,.str x'.v.s,.int .i64 x'.e])),[.box [.t (.fn g)]])∧AOK x'∧TB x':=by
 refine jJ yA9 rfl ?_
 (have F_:=c5 zF zG zP zE (c5 zC zB zR zOC (c5 xN xW yDE zT5 (c5 zEa zOv zPQ zEB (c5 @zJO @qD @zBZ @uP @zDY))));show W CC 1 35 (zA 169) _ ⟨[(0,_),(1,_)],[_]⟩ _)
 obtain⟨z,hz,_⟩:=zHL [a,b] x y (by simp);obtain⟨f1,hO,_⟩:=zHo 1 2 [a,b] x y (by simp);obtain⟨f2,hR,_⟩:=zHo 3 3 [a,b] x y (by simp);simp only[List.map_cons,List.map_nil,Val.c] at hz hO hR
 (repeat' first|refine gA ?_|refine gT ?_ ?_<;>intro hv|fail)
 all_goals refine aJ ?_<;>(first|exact⟨⟨uF _,0⟩,⟨rfl,rfl⟩,zCz _,zKl _⟩|exact⟨AZero,⟨rfl,rfl⟩,yX,zB7⟩|exact⟨Fail 8,⟨rfl,rfl⟩,zEw _,zTJ _ (by decide)⟩)
def zGb (g:Nat) (hg:yY Tryz.prog g=true) (hH:∀x,CC.prim g x=none) (G:Int→Bool) (hG:∀c,Om CC g [.t (.int .i64 c)] []=some (.val (.t (.bool (G c))),[])) (nl cl hc hh:Bool) (kl:List Ans) (nb:List Bool) (hk:∀a ∈ kl,AOK a) :
  ∃x:Ans,Om CC 119 [.t (.agg [.sl nl cl (kl.map Ans.c),.sl hc hh (nb.map yU)]),.t (.fn g)] []=some (.val (.t (.agg [.int .u8 x.v.k,.int .i64 x.v.n,.str x.v.s,.int .i64 x.e])),[])∧AOK x∧TB x:=by
 refine zJ zZC rfl ?_
 (have F_:=c5 zF zG zP zE (c5 zC zB zR zOC (c5 kA xN kC kE (c3 zBz yFJ zIZ)));show W CC 0 8 (zA 119) _ ⟨[(0,_),(1,_)],[]⟩ _)
 obtain⟨t,ht,hD⟩:=zNi (fun a=>AOK a∧TB a) (fun a h he=>⟨h,h,.inl he⟩) 169 yF7 (fun x=>zX _ x (by decide)) (.fn g) nl cl hc hh kl (nb.map yU) 2 (by decide) hk (fun l x y hl hv=>by
  match l,hl,hv with
  |[a,b],_,hv=>exact zWZ g hg hH G hG a b x y)
 have ht:Om CC 133 [.t (.agg [.sl nl cl (kl.map Ans.c),.sl hc hh (nb.map yU)]),.t (.int .i64 2),.fn 169 [] [.box 0 0]] _=_:=ht;clear hk hG
 (refine gA ?_)
 all_goals refine aJ ?_<;>exact⟨t,⟨rfl,rfl⟩,hD⟩
def zVF (g:Nat) (hg:yY Tryz.prog g=true) (hH:∀x,CC.prim g x=none) (kind:Int) (l:List Val) (hl:l.length<9223372036854775808) (x y:Bool) (r:Ans) (hr:Om CC g [.t (.sl x y (l.map Val.c))] []=some (.val (.t (.agg [.int .u8 r.v.k,.int .i64 r.v.n,.str r.v.s,.int .i64 r.e])),[])) (hE:AOK r) :
  ∃x':Ans,Om CC 171 [.t (.sl x y (l.map Val.c)),.box 0 0,.box 1 0] [.box [.t (.int .u8 kind)],.box [.t (.fn g)]]=some (.val (.t (.agg [.int .u8 x'.v.k,.int .i64 x'.v.n,.str x'.v.s,.int .i64 x'.e])),[.box [.t (.int .u8 kind)],.box [.t (.fn g)]])∧AOK x':=by
 refine jJ zYI rfl ?_
 (have F_:=c5 zF zP zE zC (c5 zB zR xN xW (c5 zBz yHb zOv zPQ (c2 zEB @zBZ)));show W CC 2 19 (zA 171) _ ⟨[(0,_),(1,_),(2,_)],[_,_]⟩ _)
 obtain⟨z,hz,_⟩:=zHL l x y hl;obtain⟨f1,hO,_⟩:=zHo kind kind l x y hl
 (repeat' first|refine gA ?_|refine gT ?_ ?_<;>intro hv|fail)
 all_goals refine aJ ?_<;>(first|exact⟨r,⟨rfl,rfl⟩,hE⟩|exact⟨AZero,⟨rfl,rfl⟩,yX⟩|exact⟨Fail 8,⟨rfl,rfl⟩,zEw _⟩)
def zFA (g:Nat) (hg:yY Tryz.prog g=true) (hH:∀x,CC.prim g x=none) (kind:Int) (n:Nat) (hn:n<4294967295) (hG:∀(l:List Val) (x y:Bool),l.length=n→(∀v ∈ l,VOK v)→∃r:Ans,Om CC g [.t (.sl x y (l.map Val.c))] []=some (.val (.t (.agg [.int .u8 r.v.k,.int .i64 r.v.n,.str r.v.s,.int .i64 r.e])),[])∧AOK r) (nl cl hc hh:Bool) (kl:List Ans) (nb:List Bool) (hk:∀a ∈ kl,AOK a) :
  ∃x:Ans,Om CC 124 [.t (.agg [.sl nl cl (kl.map Ans.c),.sl hc hh (nb.map yU)]),.t (.int .i64 (n:Int)),.t (.int .u8 kind),.t (.fn g)] []=some (.val (.t (.agg [.int .u8 x.v.k,.int .i64 x.v.n,.str x.v.s,.int .i64 x.e])),[])∧AOK x:=by
 refine zJ zYU rfl ?_
 (have F_:=c5 zF zG zP zE (c5 zC zB zR kA (c5 xN kC kE zBz (c2 yEX zIZ)));show W CC 0 13 (zA 124) _ ⟨[(0,_),(1,_),(2,_),(3,_)],[]⟩ _)
 obtain⟨t,ht,hD⟩:=zUY 171 yD6 (fun x=>zX _ x (by decide)) (.int .u8 kind) (.fn g) nl cl hc hh kl (nb.map yU) n hn hk (fun l x y hl hv=>by
  obtain⟨r,hr,hE⟩:=hG l x y hl hv;exact zVF g hg hH kind l (by omega) x y r hr hE)
 clear hk hG
 (refine gA ?_)
 all_goals refine aJ ?_<;>exact⟨t,⟨rfl,rfl⟩,hD⟩
def zXD (g:Nat) (hg:yY Tryz.prog g=true) (hH:∀x,CC.prim g x=none) (a b:Val) (x y:Bool) (r:Val×Int) (hr:Om CC g [.t (.agg [.int .u8 a.k,.int .i64 a.n,.str a.s]),.t (.agg [.int .u8 b.k,.int .i64 b.n,.str b.s])] []=some (.val (.tup [.t (.agg [.int .u8 r.1.k,.int .i64 r.1.n,.str r.1.s]),.t (.int .i64 r.2)]),[])) (hE:VOK r.1) :
  ∃x':Ans,Om CC 173 [.t (.sl x y [[.int .u8 a.k,.int .i64 a.n,.str a.s],[.int .u8 b.k,.int .i64 b.n,.str b.s]]),.box 0 0] [.box [.t (.fn g)]]=some (.val (.t (.agg [.int .u8 x'.v.k,.int .i64 x'.v.n,.str x'.v.s,.int .i64 x'.e])),[.box [.t (.fn g)]])∧AOK x':=by
 refine jJ zZJ rfl ?_
 (have F_:=c5 zF zE zC zB (c5 zR xN xW zOA (c5 yFV zGK @zFc @uP @zDY));show W CC 1 15 (zA 173) _ ⟨[(0,_),(1,_)],[_]⟩ _)
 (refine gA ?_)
 all_goals refine aJ ?_<;>exact⟨Told r.1 r.2,⟨rfl,rfl⟩,zGH _ _ hE⟩
def zJu (g:Nat) (hg:yY Tryz.prog g=true) (hH:∀x,CC.prim g x=none) (hG:∀a b:Val,VOK a→VOK b→∃r:Val×Int,Om CC g [.t (.agg [.int .u8 a.k,.int .i64 a.n,.str a.s]),.t (.agg [.int .u8 b.k,.int .i64 b.n,.str b.s])] []=some (.val (.tup [.t (.agg [.int .u8 r.1.k,.int .i64 r.1.n,.str r.1.s]),.t (.int .i64 r.2)]),[])∧VOK r.1) (nl cl hc hh:Bool) (kl:List Ans) (nb:List Bool) (hk:∀a ∈ kl,AOK a) :
  ∃x:Ans,Om CC 128 [.t (.agg [.sl nl cl (kl.map Ans.c),.sl hc hh (nb.map yU)]),.t (.fn g)] []=some (.val (.t (.agg [.int .u8 x.v.k,.int .i64 x.v.n,.str x.v.s,.int .i64 x.e])),[])∧AOK x:=by
 refine zJ yAg rfl ?_
 (have F_:=c5 zF zG zP zE (c5 zC zB zR kA (c5 xN kC kE zBz (c3 zOA yFq zIZ)));show W CC 0 8 (zA 128) _ ⟨[(0,_),(1,_)],[]⟩ _)
 obtain⟨t,ht,hD⟩:=zNi AOK (fun a h _=>h) 173 yHa (fun x=>zX _ x (by decide)) (.fn g) nl cl hc hh kl (nb.map yU) 2 (by decide) hk (fun l x y hl hv=>by
  match l,hl,hv with
  |[a,b],_,hv =>
   obtain⟨r,hr,hE⟩:=hG a b (hv a (by simp)) (hv b (by simp));exact zXD g hg hH a b x y r hr hE)
 have ht:Om CC 133 [.t (.agg [.sl nl cl (kl.map Ans.c),.sl hc hh (nb.map yU)]),.t (.int .i64 2),.fn 173 [] [.box 0 0]] _=_:=ht;clear hk hG
 (refine gA ?_)
 all_goals refine aJ ?_<;>exact⟨t,⟨rfl,rfl⟩,hD⟩
end Go.Ab
