/- Lemmas. -/
import Derived.Test.YtdbfacakphncfaaGreatDoorG18
import Derived.Test.YtdbfacakphncfaaGreatDoorG04
set_option maxRecDepth 1000000
set_option maxHeartbeats 40000000
set_option linter.all false
namespace Go.Ab
open Go.Proofs
attribute [local irreducible] W RW RR
def zJR(v:Val)(e:Int):∃x:Ans,Om CC 135 [.t (.agg [.int .u8 v.k,.int .i64 v.n,.str v.s]),.t (.int .i64 e)] []=some (.val (.t (.agg [.int .u8 x.v.k,.int .i64 x.v.n,.str x.v.s,.int .i64 x.e])),[])∧(VOK v→VOK x.v):=by
 refine zH zYP rfl ?_
 (have F_:=c5 zF zE zD zC (c3 zQ xI yBj);show W CC 0 11 (zA 135) _ ⟨[(0,_),(1,_)],[]⟩ _)
 (repeat' first|refine gA ?_|refine gT ?_ ?_<;>intro hv<;>try cases hv;done|fail)
 all_goals refine aM ?_<;>(refine⟨⟨⟨_,_,_⟩,_⟩,⟨rfl,rfl⟩,?_⟩;first|exact fun _=>yU|exact fun h=>h)
noncomputable def Told(v:Val)(e:Int):Ans:=(zJR v e).choose
def zEQ(v:Val)(e:Int):Om CC 135 [.t (.agg [.int .u8 v.k,.int .i64 v.n,.str v.s]),.t (.int .i64 e)] []=some (.val (.t (.agg [.int .u8 (Told v e).v.k,.int .i64 (Told v e).v.n,.str (Told v e).v.s,.int .i64 (Told v e).e])),[]):=(zJR v e).choose_spec.1
def zGv(v:Val)(e:Int):VOK v→VOK (Told v e).v:=(zJR v e).choose_spec.2
def xaW:=c5 zF zE zD zC (c3 zQ xI zSL)
def zJJ(e:Int):∃x:Ans,Om CC 115 [.t (.int .i64 e)] []=some (.val (.t (.agg [.int .u8 x.v.k,.int .i64 x.v.n,.str x.v.s,.int .i64 x.e])),[])∧(VOK x.v):=by
 refine zH zPU rfl ?_
 (have F_:=xaW;show W CC 0 5 (zA 115) _ ⟨[(0,_)],[]⟩ _)
 (repeat' first|refine gA ?_|refine gT ?_ ?_<;>intro hv<;>try cases hv;done|fail)
 all_goals refine aM ?_<;>(refine⟨⟨⟨_,_,_⟩,_⟩,⟨rfl,rfl⟩,?_⟩;exact yU)
noncomputable def Fail(e:Int):Ans:=(zJJ e).choose
def zB4(e:Int):Om CC 115 [.t (.int .i64 e)] []=some (.val (.t (.agg [.int .u8 (Fail e).v.k,.int .i64 (Fail e).v.n,.str (Fail e).v.s,.int .i64 (Fail e).e])),[]):=(zJJ e).choose_spec.1
def zDY(e:Int):VOK (Fail e).v:=(zJJ e).choose_spec.2
def zSi(e:Int):Om CC 115 [.t (.int .i64 e)] []=some (.val (.t (.agg [.int .u8 0,.int .i64 0,.str [],.int .i64 e])),[]):=by
 refine zV zPU rfl ?_
 (have F_:=xaW;show W CC 0 5 (zA 115) _ ⟨[(0,_)],[]⟩ _)
 (repeat' first|refine gA ?_|refine gT ?_ ?_<;>intro hv<;>try cases hv;done|fail)
 all_goals refine aO ?_ ?_<;>(first|rfl)
def zXN(e:Int):Fail e=⟨VZ,e⟩:=by
 have h:=(zB4 e).symm.trans (zSi e);generalize Fail e=x at h;obtain⟨⟨k,n,s⟩,e'⟩:=x;cases h
 rfl
def zTJ(e:Int)(h:e≠0):TB (Fail e):=by rw[zXN];exact⟨zAn,.inl h⟩
def zPe(b:Bool):Om CC 87 [.t (.bool b)] []=some (.val (.t (.agg [.int .u8 4,.int .i64 (match b with|true=>1|false=>0),.str []])),[]):=by
 cases b with
 |true =>
  refine zV zOt rfl ?_
  (have F_:=xaU;show W CC 0 6 (zA 87) _ ⟨[(0,_)],[]⟩ _)
  (repeat' first|refine gA ?_|refine gT ?_ ?_<;>intro hv<;>try cases hv;done|fail)
  all_goals refine aO ?_ ?_<;>(first|rfl)
 |false =>
  refine zV zOt rfl ?_
  (have F_:=xaU;show W CC 0 6 (zA 87) _ ⟨[(0,_)],[]⟩ _)
  (repeat' first|refine gA ?_|refine gT ?_ ?_<;>intro hv<;>try cases hv;done|fail)
  all_goals refine aO ?_ ?_<;>(first|rfl)
def zHJ(b:Bool):uN b=⟨4,(match b with|true=>1|false=>0),[]⟩:=by
 have h:=(qL b).symm.trans (zPe b);generalize uN b=x at h;obtain⟨k,n,s⟩:=x;cases b<;>(cases h;rfl)
def zJL(b:Bool):TB ⟨uN b,0⟩:=by
 rw[zHJ];cases b
 ·exact⟨zOS,.inr (.inr (.inl rfl))⟩
 exact⟨zLU,.inr (.inl rfl)⟩
def zJV(v:Val):∃x:Ans,Om CC 114 [.t (.agg [.int .u8 v.k,.int .i64 v.n,.str v.s])] []=some (.val (.t (.agg [.int .u8 x.v.k,.int .i64 x.v.n,.str x.v.s,.int .i64 x.e])),[])∧(VOK v→VOK x.v):=by
 refine zH yAh rfl ?_
 (have F_:=c5 zF zN zE zD (c5 zC zQ xI yA6 (c3 zUX zD0 (c2 @zPN @zB4)));show W CC 0 9 (zA 114) _ ⟨[(0,_)],[]⟩ _)
 (repeat' first|refine gA ?_|refine gT ?_ ?_<;>intro hv<;>try cases hv;done|fail)
 all_goals refine aM ?_<;>(refine⟨⟨⟨_,_,_⟩,_⟩,⟨rfl,rfl⟩,?_⟩;first|exact fun _=>zDY _|exact fun h=>h)
noncomputable def Held(v:Val):Ans:=(zJV v).choose
def zYT(v:Val):Om CC 114 [.t (.agg [.int .u8 v.k,.int .i64 v.n,.str v.s])] []=some (.val (.t (.agg [.int .u8 (Held v).v.k,.int .i64 (Held v).v.n,.str (Held v).v.s,.int .i64 (Held v).e])),[]):=(zJV v).choose_spec.1
def zOa(v:Val):VOK v→VOK (Held v).v:=(zJV v).choose_spec.2
def AOK(a:Ans):Prop:=VOK a.v
def zBF{kl:List Ans}(h:∀a ∈ kl,AOK a)(i:Nat):VOK (getA kl i).v:=by
 unfold getA;rw[List.getD_eq_getElem?_getD];cases hi:kl[i]? with
 |none=>exact yU
 |some a=>exact h a (List.mem_of_getElem? hi)
def zDh(nl cl nl2 cl2:Bool)(kl:List Ans)(ns:List (List Tree))(i:Nat):Om CC 164 [.t (.agg [.sl nl cl (kl.map Ans.c),.sl nl2 cl2 ns]),.t (.int .i64 (i:Int))] []=some (.val (.t (.agg [.int .u8 (getA kl i).v.k,.int .i64 (getA kl i).v.n,.str (getA kl i).v.s,.int .i64 (getA kl i).e])),[]):=by
 refine zV zY4 rfl ?_
 (have F_:=c5 zF zG zN zE (c5 zD zC zQ jD (c3 xI jI (c2 jG yGo)));show W CC 0 16 (zA 164) _ ⟨[(0,_),(1,_)],[]⟩ _)
 by_cases hi:i<kl.length
 ·have hd:decide ((i:Int) ≥ kl.length)=false:=by simp;omega
  have he:kl[i]?=some kl[i]:=List.getElem?_eq_getElem hi;have hg:getA kl i=kl[i]:=by unfold getA;rw[List.getD_eq_getElem?_getD,he];rfl
  rw[hg];generalize kl[i]=a at he
  (have x0_:=@Ans.c.eq_1;(repeat' first|refine gA ?_|refine gT ?_ ?_<;>intro hv<;>try cases hv;done|fail);all_goals clear x0_)
  (refine aO ?_ ?_)
  ·rfl
  rfl
 have hd:decide ((i:Int) ≥ kl.length)=true:=by simp;omega
 have hg:getA kl i=AZero:=by unfold getA;rw[List.getD_eq_getElem?_getD,List.getElem?_eq_none (by omega)];rfl
 rw[hg]
 (have x0_:=@Ans.c.eq_1;(repeat' first|refine gA ?_|refine gT ?_ ?_<;>intro hv<;>try cases hv;done|fail);all_goals clear x0_)
 (refine aO ?_ ?_)
 ·rfl
 rfl
def zFA(nl cl nl2 cl2:Bool)(kl:List Ans)(ns:List (List Tree))(i:Nat)(hk:∀a ∈ kl,AOK a):∃x:Ans,Om CC 117 [.t (.agg [.sl nl cl (kl.map Ans.c),.sl nl2 cl2 ns]),.t (.int .i64 (i:Int))] []=some (.val (.t (.agg [.int .u8 x.v.k,.int .i64 x.v.n,.str x.v.s,.int .i64 x.e])),[])∧VOK x.v:=by
 refine zH yAK rfl ?_
 (have F_:=c5 zF zG zN zE (c5 zD zC zQ jD (c5 xI jI jG yFl (c3 zGh zD0 @zB4)));show W CC 0 26 (zA 117) _ ⟨[(0,_),(1,_)],[]⟩ _)
 have hg:=zDh nl cl nl2 cl2 kl ns i;have hp:=zBF hk i;clear hk
 (repeat' first|refine gA ?_|refine gT ?_ ?_<;>intro hv<;>try cases hv;done|fail)
 all_goals refine aM ?_<;>(first|exact⟨getA kl i,⟨rfl,rfl⟩,hp⟩|exact⟨Fail 8,⟨rfl,rfl⟩,zDY _⟩)
def zHb(l:List Val)(nl cl:Bool)(hl:l.length<9223372036854775808):∃x:Bool,Om CC 168 [.t (.sl nl cl (l.map Val.c))] []=some (.val (.t (.bool x)),[])∧True:=by
 refine zH zYy rfl ?_
 (have F_:=c5 zF zG zE zD (c3 zC xV yDA);show W CC 0 15 (zA 168) _ ⟨[(0,_)],[]⟩ _)
 (repeat' first|refine gA ?_|refine gT ?_ ?_<;>intro hv<;>try cases hv;done|fail)
 refine zW (α:=Nat) (fun i=>⟨[(5,.t (.sl nl cl (l.map Val.c))),(6,.t (.int .i64 l.length)),(7,.t (.int .i64 i))],[]⟩) (fun i=>l.length - i) (fun i=>i≤l.length) 0 (by kernel_rfl) (Nat.zero_le _) ?_;intro i hi
 by_cases hi':i<l.length
 ·have hw:=wI64 i (by omega);have he:l[i]?=some l[i]:=List.getElem?_eq_getElem hi';have hd:decide ((i:Int)<l.length)=true:=by simpa using hi'
  generalize l[i]=v at he
  (repeat' first|refine gA ?_|refine gT ?_ ?_<;>intro hv<;>try cases hv;done|fail)
  all_goals first
   |((refine aM ?_);exact⟨_,⟨rfl,rfl⟩,trivial⟩)
   |exact zB (i+1) (by omega) (by omega) (by kernel_rfl)
 have hd:decide ((i:Int)<l.length)=false:=by simpa using hi'
 (repeat' first|refine gA ?_|refine gT ?_ ?_<;>intro hv<;>try cases hv;done|fail)
 (refine aM ?_)
 exact⟨_,⟨rfl,rfl⟩,trivial⟩
def zG9(a b:Int)(l:List Val)(nl cl:Bool)(hl:l.length<9223372036854775808):∃x:Bool,Om CC 170 [.t (.int .u8 a),.t (.int .u8 b),.t (.sl nl cl (l.map Val.c))] []=some (.val (.t (.bool x)),[])∧True:=by
 refine zH zYs rfl ?_
 (have F_:=c5 zF zG zE zD (c3 zC xV yEm);show W CC 0 31 (zA 170) _ ⟨[(0,_),(1,_),(2,_)],[]⟩ _)
 (repeat' first|refine gA ?_|refine gT ?_ ?_<;>intro hv<;>try cases hv;done|fail)
 refine zW (α:=Nat) (fun i=>⟨[(0,.t (.int .u8 a)),(1,.t (.int .u8 b)),(9,.t (.sl nl cl (l.map Val.c))),(10,.t (.int .i64 l.length)),(11,.t (.int .i64 i))],[]⟩) (fun i=>l.length - i) (fun i=>i≤l.length) 0 (by kernel_rfl) (Nat.zero_le _) ?_;intro i hi
 by_cases hi':i<l.length
 ·have hw:=wI64 i (by omega);have he:l[i]?=some l[i]:=List.getElem?_eq_getElem hi';have hd:decide ((i:Int)<l.length)=true:=by simpa using hi'
  generalize l[i]=v at he
  (repeat' first|refine gA ?_|refine gT ?_ ?_<;>intro hv<;>try cases hv;done|fail)
  all_goals first
   |((refine aM ?_);exact⟨_,⟨rfl,rfl⟩,trivial⟩)
   |exact zB (i+1) (by omega) (by omega) (by kernel_rfl)
 have hd:decide ((i:Int)<l.length)=false:=by simpa using hi'
 (repeat' first|refine gA ?_|refine gT ?_ ?_<;>intro hv<;>try cases hv;done|fail)
 (refine aM ?_)
 exact⟨_,⟨rfl,rfl⟩,trivial⟩
def zQ7(nl cl nl2 cl2:Bool)(kl:List Ans)(ns:List (List Tree))(hk:∀a ∈ kl,AOK a):∃x:Ans,Om CC 146 [.t (.agg [.sl nl cl (kl.map Ans.c),.sl nl2 cl2 ns])] []=some (.val (.t (.agg [.int .u8 x.v.k,.int .i64 x.v.n,.str x.v.s,.int .i64 x.e])),[])∧VOK x.v:=by
 refine zH yAi rfl ?_
 (have F_:=c5 zF zG zN zE (c5 zD zC zQ jD (c5 xI jI jG yFQ (c2 zGh zOX)));show W CC 0 26 (zA 146) _ ⟨[(0,_)],[]⟩ _)
 obtain⟨t,ht,htp⟩:=zFA nl cl nl2 cl2 kl ns 0 hk;have g1:=zDh nl cl nl2 cl2 kl ns 1;have g2:=zDh nl cl nl2 cl2 kl ns 2;have p1:=zBF hk 1;have p2:=zBF hk 2;clear hk;simp only[Int.ofNat_eq_natCast,Int.natCast_zero,Int.natCast_one,Int.cast_ofNat_Int] at ht g1 g2;have ht:Om CC 117 [.t (.agg [.sl nl cl (kl.map Ans.c),.sl nl2 cl2 ns]),.t (.int .i64 0)] []=_:=ht;have g1:Om CC 164 [.t (.agg [.sl nl cl (kl.map Ans.c),.sl nl2 cl2 ns]),.t (.int .i64 1)] []=_:=g1;have g2:Om CC 164 [.t (.agg [.sl nl cl (kl.map Ans.c),.sl nl2 cl2 ns]),.t (.int .i64 2)] []=_:=g2
 (repeat' first|refine gA ?_|refine gT ?_ ?_<;>intro hv<;>try cases hv;done|fail)
 all_goals refine aM ?_<;>(first|exact⟨t,⟨rfl,rfl⟩,htp⟩|exact⟨getA kl 1,⟨rfl,rfl⟩,p1⟩|exact⟨getA kl 2,⟨rfl,rfl⟩,p2⟩)
def xaX:=c5 zF zG zN zE (c5 zD zC zQ jD (c5 xI jI jG xV (c3 zBq zJ5 zGh)))
def zFR (f:Nat) (hb:yY Tryz.prog f=true) (hbp:∀x,CC.prim f x=none) (nl cl nl2 cl2:Bool) (kl:List Ans) (ns:List (List Tree)) (n:Nat) (hn:n<4294967295) (hk:∀a ∈ kl,AOK a)
  (hdo:∀(l:List Val) (x y:Bool),l.length=n→(∀v ∈ l,VOK v)→∃a:Ans,Om CC f [.t (.sl x y (l.map Val.c))] []=some (.val (.t (.agg [.int .u8 a.v.k,.int .i64 a.v.n,.str a.v.s,.int .i64 a.e])),[])∧AOK a) :
  ∃x:Ans,Om CC 133 [.t (.agg [.sl nl cl (kl.map Ans.c),.sl nl2 cl2 ns]),.t (.int .i64 (n:Int)),.t (.fn f)] []=some (.val (.t (.agg [.int .u8 x.v.k,.int .i64 x.v.n,.str x.v.s,.int .i64 x.e])),[])∧AOK x:=by
 refine uK zI1 rfl ?_
 (have F_:=xaX;show W CC 0 30 (zA 133) _ ⟨[(0,_),(1,_),(2,_)],[]⟩ _)
 (repeat' first|refine gA ?_|refine gT ?_ ?_<;>intro hv<;>try cases hv;done|fail)
 refine zW (α:=Nat×Bool×List Val) (fun a=>⟨[(2,.t (.fn f)),(3,.box 0 0),(6,.box 1 0),(7,match a.2.1 with|true=>.hs 2 0|false=>.t (.sl true true [])),(10,.t (.int .i64 (n:Int))),(11,.t (.int .i64 a.1))],
   match a.2.1 with|true=>[.box [.t (.sl nl cl (kl.map Ans.c)),.t (.sl nl2 cl2 ns)],.box (AZero.c.map .t),.arr 3 0 false (a.2.2.map Val.c)]|false=>[.box [.t (.sl nl cl (kl.map Ans.c)),.t (.sl nl2 cl2 ns)],.box (AZero.c.map .t)]⟩)
  (fun a=>n - a.1) (fun a=>a.1≤n∧a.2.2.length=a.1∧(a.2.1=false→a.2.2=[])∧∀v ∈ a.2.2,VOK v) (0,false,[]) (by kernel_rfl) ⟨Nat.zero_le _,rfl,fun _=>rfl,fun v hv=>(by cases hv)⟩ ?_
 rintro⟨i,st,out⟩ ⟨hi,ho,hno,hor⟩
 try dsimp only at hi ho hno hor
 have hle:lens 3 (out.map Val.c)=true:=vF Val.c 3 (fun a=>rfl) out;simp only[AZero,Zero,Ans.c,List.map_cons,List.map_nil]
 by_cases hi':i<n
 ·have hw:=wI64 i (by omega);have hd:decide ((i:Int)<(n:Int))=true:=by simpa using hi'
  have hsm:decide (i+1<4294967296)=true:=by simp;omega
  have hg:=zDh nl cl nl2 cl2 kl ns i;have hp:=zBF hk i;generalize getA kl i=g at hg hp;clear hk hdo;cases st with
  |true =>
   clear hno
   (repeat' first|refine gA ?_|refine gT ?_ ?_<;>intro hv<;>try cases hv;done|fail)
   ·(refine aM ?_)
    exact⟨g,⟨rfl,rfl⟩,hp⟩
   refine zB (i+1,true,out++[g.v]) (by first|omega|(dsimp only;omega)) ⟨by first|omega|(dsimp only;omega),by simp [ho],fun h=>(by cases h),fun x hx=>?_⟩ (by(have X_:=c3 @mapA @AZero.eq_1 (c2 @Zero.eq_1 @Ans.c.eq_1);exact aTdX));rcases List.mem_append.1 hx with h|h
   ·exact hor x h
   rw[List.mem_singleton.1 h];exact hp
  |false =>
   have h0:=hno rfl;subst h0;simp at ho;subst ho;clear hno hor
   (repeat' first|refine gA ?_|refine gT ?_ ?_<;>intro hv<;>try cases hv;done|fail)
   ·(refine aM ?_)
    exact⟨g,⟨rfl,rfl⟩,hp⟩
   refine zB (1,true,[g.v]) (by first|omega|(dsimp only;omega)) ⟨by first|omega|(dsimp only;omega),by simp,fun h=>(by cases h),fun x hx=>?_⟩ (by(have X_:=c3 @mapA @AZero.eq_1 (c2 @Zero.eq_1 @Ans.c.eq_1);exact aTdX));rw[List.mem_singleton.1 hx];exact hp
 have hd:decide ((i:Int)<(n:Int))=false:=by simpa using hi'
 cases st with
 |true =>
  obtain⟨a,ha,hap⟩:=hdo out false false (by omega) hor;clear hdo hor hk hno
  (repeat' first|refine gA ?_|refine gT ?_ ?_<;>intro hv<;>try cases hv;done|fail)
  (refine aM ?_)
  exact⟨a,⟨rfl,rfl⟩,hap⟩
 |false =>
  have h0:=hno rfl;subst h0;obtain⟨a,ha,hap⟩:=hdo [] true true (by omega) (fun v hv=>(by cases hv));simp only[List.map_nil] at ha;clear hdo hor hk hno
  (repeat' first|refine gA ?_|refine gT ?_ ?_<;>intro hv<;>try cases hv;done|fail)
  (refine aM ?_)
  exact⟨a,⟨rfl,rfl⟩,hap⟩
def zMD (P:Ans→Prop) (hP:∀a,AOK a→a.e≠0→P a) (f:Nat) (hb:yY Tryz.prog f=true) (hbp:∀x,CC.prim f x=none) (w00:Tree) (nl cl nl2 cl2:Bool) (kl:List Ans) (ns:List (List Tree)) (n:Nat) (hn:n<4294967295) (hk:∀a ∈ kl,AOK a)
  (hdo:∀(l:List Val) (x y:Bool),l.length=n→(∀v ∈ l,VOK v)→∃a:Ans,Om CC f [.t (.sl x y (l.map Val.c)),.box 0 0] [.box [.t w00]]=some (.val (.t (.agg [.int .u8 a.v.k,.int .i64 a.v.n,.str a.v.s,.int .i64 a.e])),[.box [.t w00]])∧P a) :
  ∃x:Ans,Om CC 133 [.t (.agg [.sl nl cl (kl.map Ans.c),.sl nl2 cl2 ns]),.t (.int .i64 (n:Int)),.fn f [] [.box 0 0]] [.box [.t w00]]=some (.val (.t (.agg [.int .u8 x.v.k,.int .i64 x.v.n,.str x.v.s,.int .i64 x.e])),[.box [.t w00]])∧P x:=by
 refine uK zI1 rfl ?_
 (have F_:=xaX;show W CC 1 30 (zA 133) _ ⟨[(0,_),(1,_),(2,_)],[_]⟩ _)
 (repeat' first|refine gA ?_|refine gT ?_ ?_<;>intro hv<;>try cases hv;done|fail)
 refine zW (α:=Nat×Bool×List Val) (fun a=>⟨[(2,.fn f [] [.box 0 0]),(3,.box 1 0),(6,.box 2 0),(7,match a.2.1 with|true=>.hs 3 0|false=>.t (.sl true true [])),(10,.t (.int .i64 (n:Int))),(11,.t (.int .i64 a.1))],
   match a.2.1 with|true=>[.box [.t w00],.box [.t (.sl nl cl (kl.map Ans.c)),.t (.sl nl2 cl2 ns)],.box (AZero.c.map .t),.arr 3 0 false (a.2.2.map Val.c)]|false=>[.box [.t w00],.box [.t (.sl nl cl (kl.map Ans.c)),.t (.sl nl2 cl2 ns)],.box (AZero.c.map .t)]⟩)
  (fun a=>n - a.1) (fun a=>a.1≤n∧a.2.2.length=a.1∧(a.2.1=false→a.2.2=[])∧∀v ∈ a.2.2,VOK v) (0,false,[]) (by kernel_rfl) ⟨Nat.zero_le _,rfl,fun _=>rfl,fun v hv=>(by cases hv)⟩ ?_
 rintro⟨i,st,out⟩ ⟨hi,ho,hno,hor⟩
 try dsimp only at hi ho hno hor
 have hle:lens 3 (out.map Val.c)=true:=vF Val.c 3 (fun a=>rfl) out;simp only[AZero,Zero,Ans.c,List.map_cons,List.map_nil]
 by_cases hi':i<n
 ·have hw:=wI64 i (by omega);have hd:decide ((i:Int)<(n:Int))=true:=by simpa using hi'
  have hsm:decide (i+1<4294967296)=true:=by simp;omega
  have hg:=zDh nl cl nl2 cl2 kl ns i;have hp:=zBF hk i;generalize getA kl i=g at hg hp;clear hk hdo;cases st with
  |true =>
   clear hno
   (repeat' first|refine gA ?_|refine gT ?_ ?_<;>intro hv<;>try cases hv;done|fail)
   ·(refine aM ?_)
    exact⟨g,⟨rfl,rfl⟩,hP g hp (by clear F_ hP;intro h0;simp_all)⟩
   refine zB (i+1,true,out++[g.v]) (by first|omega|(dsimp only;omega)) ⟨by first|omega|(dsimp only;omega),by simp [ho],fun h=>(by cases h),fun x hx=>?_⟩ (by(have X_:=c3 @mapA @AZero.eq_1 (c2 @Zero.eq_1 @Ans.c.eq_1);exact aTdX));rcases List.mem_append.1 hx with h|h
   ·exact hor x h
   rw[List.mem_singleton.1 h];exact hp
  |false =>
   have h0:=hno rfl;subst h0;simp at ho;subst ho;clear hno hor
   (repeat' first|refine gA ?_|refine gT ?_ ?_<;>intro hv<;>try cases hv;done|fail)
   ·(refine aM ?_)
    exact⟨g,⟨rfl,rfl⟩,hP g hp (by clear F_ hP;intro h0;simp_all)⟩
   refine zB (1,true,[g.v]) (by first|omega|(dsimp only;omega)) ⟨by first|omega|(dsimp only;omega),by simp,fun h=>(by cases h),fun x hx=>?_⟩ (by(have X_:=c3 @mapA @AZero.eq_1 (c2 @Zero.eq_1 @Ans.c.eq_1);exact aTdX));rw[List.mem_singleton.1 hx];exact hp
 have hd:decide ((i:Int)<(n:Int))=false:=by simpa using hi'
 cases st with
 |true =>
  obtain⟨a,ha,hap⟩:=hdo out false false (by omega) hor;clear hdo hor hk hno
  (repeat' first|refine gA ?_|refine gT ?_ ?_<;>intro hv<;>try cases hv;done|fail)
  (refine aM ?_)
  exact⟨a,⟨rfl,rfl⟩,hap⟩
 |false =>
  have h0:=hno rfl;subst h0;obtain⟨a,ha,hap⟩:=hdo [] true true (by omega) (fun v hv=>(by cases hv));simp only[List.map_nil] at ha;clear hdo hor hk hno
  (repeat' first|refine gA ?_|refine gT ?_ ?_<;>intro hv<;>try cases hv;done|fail)
  (refine aM ?_)
  exact⟨a,⟨rfl,rfl⟩,hap⟩
def zTd (f:Nat) (hb:yY Tryz.prog f=true) (hbp:∀x,CC.prim f x=none) (w00 w10:Tree) (nl cl nl2 cl2:Bool) (kl:List Ans) (ns:List (List Tree)) (n:Nat) (hn:n<4294967295) (hk:∀a ∈ kl,AOK a)
  (hdo:∀(l:List Val) (x y:Bool),l.length=n→(∀v ∈ l,VOK v)→∃a:Ans,Om CC f [.t (.sl x y (l.map Val.c)),.box 0 0,.box 1 0] [.box [.t w00],.box [.t w10]]=some (.val (.t (.agg [.int .u8 a.v.k,.int .i64 a.v.n,.str a.v.s,.int .i64 a.e])),[.box [.t w00],.box [.t w10]])∧AOK a) :
  ∃x:Ans,Om CC 133 [.t (.agg [.sl nl cl (kl.map Ans.c),.sl nl2 cl2 ns]),.t (.int .i64 (n:Int)),.fn f [] [.box 0 0,.box 1 0]] [.box [.t w00],.box [.t w10]]=some (.val (.t (.agg [.int .u8 x.v.k,.int .i64 x.v.n,.str x.v.s,.int .i64 x.e])),[.box [.t w00],.box [.t w10]])∧AOK x:=by
 refine uK zI1 rfl ?_
 (have F_:=xaX;show W CC 2 30 (zA 133) _ ⟨[(0,_),(1,_),(2,_)],[_,_]⟩ _)
 (repeat' first|refine gA ?_|refine gT ?_ ?_<;>intro hv<;>try cases hv;done|fail)
 refine zW (α:=Nat×Bool×List Val) (fun a=>⟨[(2,.fn f [] [.box 0 0,.box 1 0]),(3,.box 2 0),(6,.box 3 0),(7,match a.2.1 with|true=>.hs 4 0|false=>.t (.sl true true [])),(10,.t (.int .i64 (n:Int))),(11,.t (.int .i64 a.1))],
   match a.2.1 with|true=>[.box [.t w00],.box [.t w10],.box [.t (.sl nl cl (kl.map Ans.c)),.t (.sl nl2 cl2 ns)],.box (AZero.c.map .t),.arr 3 0 false (a.2.2.map Val.c)]|false=>[.box [.t w00],.box [.t w10],.box [.t (.sl nl cl (kl.map Ans.c)),.t (.sl nl2 cl2 ns)],.box (AZero.c.map .t)]⟩)
  (fun a=>n - a.1) (fun a=>a.1≤n∧a.2.2.length=a.1∧(a.2.1=false→a.2.2=[])∧∀v ∈ a.2.2,VOK v) (0,false,[]) (by kernel_rfl) ⟨Nat.zero_le _,rfl,fun _=>rfl,fun v hv=>(by cases hv)⟩ ?_
 rintro⟨i,st,out⟩ ⟨hi,ho,hno,hor⟩
 try dsimp only at hi ho hno hor
 have hle:lens 3 (out.map Val.c)=true:=vF Val.c 3 (fun a=>rfl) out;simp only[AZero,Zero,Ans.c,List.map_cons,List.map_nil]
 by_cases hi':i<n
 ·have hw:=wI64 i (by omega);have hd:decide ((i:Int)<(n:Int))=true:=by simpa using hi'
  have hsm:decide (i+1<4294967296)=true:=by simp;omega
  have hg:=zDh nl cl nl2 cl2 kl ns i;have hp:=zBF hk i;generalize getA kl i=g at hg hp;clear hk hdo;cases st with
  |true =>
   clear hno
   (repeat' first|refine gA ?_|refine gT ?_ ?_<;>intro hv<;>try cases hv;done|fail)
   ·(refine aM ?_)
    exact⟨g,⟨rfl,rfl⟩,hp⟩
   refine zB (i+1,true,out++[g.v]) (by first|omega|(dsimp only;omega)) ⟨by first|omega|(dsimp only;omega),by simp [ho],fun h=>(by cases h),fun x hx=>?_⟩ (by(have X_:=c3 @mapA @AZero.eq_1 (c2 @Zero.eq_1 @Ans.c.eq_1);exact aTdX));rcases List.mem_append.1 hx with h|h
   ·exact hor x h
   rw[List.mem_singleton.1 h];exact hp
  |false =>
   have h0:=hno rfl;subst h0;simp at ho;subst ho;clear hno hor
   (repeat' first|refine gA ?_|refine gT ?_ ?_<;>intro hv<;>try cases hv;done|fail)
   ·(refine aM ?_)
    exact⟨g,⟨rfl,rfl⟩,hp⟩
   refine zB (1,true,[g.v]) (by first|omega|(dsimp only;omega)) ⟨by first|omega|(dsimp only;omega),by simp,fun h=>(by cases h),fun x hx=>?_⟩ (by(have X_:=c3 @mapA @AZero.eq_1 (c2 @Zero.eq_1 @Ans.c.eq_1);exact aTdX));rw[List.mem_singleton.1 hx];exact hp
 have hd:decide ((i:Int)<(n:Int))=false:=by simpa using hi'
 cases st with
 |true =>
  obtain⟨a,ha,hap⟩:=hdo out false false (by omega) hor;clear hdo hor hk hno
  (repeat' first|refine gA ?_|refine gT ?_ ?_<;>intro hv<;>try cases hv;done|fail)
  (refine aM ?_)
  exact⟨a,⟨rfl,rfl⟩,hap⟩
 |false =>
  have h0:=hno rfl;subst h0;obtain⟨a,ha,hap⟩:=hdo [] true true (by omega) (fun v hv=>(by cases hv));simp only[List.map_nil] at ha;clear hdo hor hk hno
  (repeat' first|refine gA ?_|refine gT ?_ ?_<;>intro hv<;>try cases hv;done|fail)
  (refine aM ?_)
  exact⟨a,⟨rfl,rfl⟩,hap⟩
def zTh (P:Ans→Prop) (hP:∀a,AOK a→a.e≠0→P a) (f:Nat) (hb:yY Tryz.prog f=true) (hbp:∀x,CC.prim f x=none) (w00 w01 w10:Tree) (nl cl nl2 cl2:Bool) (kl:List Ans) (ns:List (List Tree)) (n:Nat) (hn:n<4294967295) (hk:∀a ∈ kl,AOK a)
  (hdo:∀(l:List Val) (x y:Bool),l.length=n→(∀v ∈ l,VOK v)→∃a:Ans,Om CC f [.t (.sl x y (l.map Val.c)),.box 0 0,.box 1 0] [.box [.t w00,.t w01],.box [.t w10]]=some (.val (.t (.agg [.int .u8 a.v.k,.int .i64 a.v.n,.str a.v.s,.int .i64 a.e])),[.box [.t w00,.t w01],.box [.t w10]])∧P a) :
  ∃x:Ans,Om CC 133 [.t (.agg [.sl nl cl (kl.map Ans.c),.sl nl2 cl2 ns]),.t (.int .i64 (n:Int)),.fn f [] [.box 0 0,.box 1 0]] [.box [.t w00,.t w01],.box [.t w10]]=some (.val (.t (.agg [.int .u8 x.v.k,.int .i64 x.v.n,.str x.v.s,.int .i64 x.e])),[.box [.t w00,.t w01],.box [.t w10]])∧P x:=by
 refine uK zI1 rfl ?_
 (have F_:=xaX;show W CC 2 30 (zA 133) _ ⟨[(0,_),(1,_),(2,_)],[_,_]⟩ _)
 (repeat' first|refine gA ?_|refine gT ?_ ?_<;>intro hv<;>try cases hv;done|fail)
 refine zW (α:=Nat×Bool×List Val) (fun a=>⟨[(2,.fn f [] [.box 0 0,.box 1 0]),(3,.box 2 0),(6,.box 3 0),(7,match a.2.1 with|true=>.hs 4 0|false=>.t (.sl true true [])),(10,.t (.int .i64 (n:Int))),(11,.t (.int .i64 a.1))],
   match a.2.1 with|true=>[.box [.t w00,.t w01],.box [.t w10],.box [.t (.sl nl cl (kl.map Ans.c)),.t (.sl nl2 cl2 ns)],.box (AZero.c.map .t),.arr 3 0 false (a.2.2.map Val.c)]|false=>[.box [.t w00,.t w01],.box [.t w10],.box [.t (.sl nl cl (kl.map Ans.c)),.t (.sl nl2 cl2 ns)],.box (AZero.c.map .t)]⟩)
  (fun a=>n - a.1) (fun a=>a.1≤n∧a.2.2.length=a.1∧(a.2.1=false→a.2.2=[])∧∀v ∈ a.2.2,VOK v) (0,false,[]) (by kernel_rfl) ⟨Nat.zero_le _,rfl,fun _=>rfl,fun v hv=>(by cases hv)⟩ ?_
 rintro⟨i,st,out⟩ ⟨hi,ho,hno,hor⟩
 try dsimp only at hi ho hno hor
 have hle:lens 3 (out.map Val.c)=true:=vF Val.c 3 (fun a=>rfl) out;simp only[AZero,Zero,Ans.c,List.map_cons,List.map_nil]
 by_cases hi':i<n
 ·have hw:=wI64 i (by omega);have hd:decide ((i:Int)<(n:Int))=true:=by simpa using hi'
  have hsm:decide (i+1<4294967296)=true:=by simp;omega
  have hg:=zDh nl cl nl2 cl2 kl ns i;have hp:=zBF hk i;generalize getA kl i=g at hg hp;clear hk hdo;cases st with
  |true =>
   clear hno
   (repeat' first|refine gA ?_|refine gT ?_ ?_<;>intro hv<;>try cases hv;done|fail)
   ·(refine aM ?_)
    exact⟨g,⟨rfl,rfl⟩,hP g hp (by clear F_ hP;intro h0;simp_all)⟩
   refine zB (i+1,true,out++[g.v]) (by first|omega|(dsimp only;omega)) ⟨by first|omega|(dsimp only;omega),by simp [ho],fun h=>(by cases h),fun x hx=>?_⟩ (by(have X_:=c3 @mapA @AZero.eq_1 (c2 @Zero.eq_1 @Ans.c.eq_1);exact aTdX));rcases List.mem_append.1 hx with h|h
   ·exact hor x h
   rw[List.mem_singleton.1 h];exact hp
  |false =>
   have h0:=hno rfl;subst h0;simp at ho;subst ho;clear hno hor
   (repeat' first|refine gA ?_|refine gT ?_ ?_<;>intro hv<;>try cases hv;done|fail)
   ·(refine aM ?_)
    exact⟨g,⟨rfl,rfl⟩,hP g hp (by clear F_ hP;intro h0;simp_all)⟩
   refine zB (1,true,[g.v]) (by first|omega|(dsimp only;omega)) ⟨by first|omega|(dsimp only;omega),by simp,fun h=>(by cases h),fun x hx=>?_⟩ (by(have X_:=c3 @mapA @AZero.eq_1 (c2 @Zero.eq_1 @Ans.c.eq_1);exact aTdX));rw[List.mem_singleton.1 hx];exact hp
 have hd:decide ((i:Int)<(n:Int))=false:=by simpa using hi'
 cases st with
 |true =>
  obtain⟨a,ha,hap⟩:=hdo out false false (by omega) hor;clear hdo hor hk hno
  (repeat' first|refine gA ?_|refine gT ?_ ?_<;>intro hv<;>try cases hv;done|fail)
  (refine aM ?_)
  exact⟨a,⟨rfl,rfl⟩,hap⟩
 |false =>
  have h0:=hno rfl;subst h0;obtain⟨a,ha,hap⟩:=hdo [] true true (by omega) (fun v hv=>(by cases hv));simp only[List.map_nil] at ha;clear hdo hor hk hno
  (repeat' first|refine gA ?_|refine gT ?_ ?_<;>intro hv<;>try cases hv;done|fail)
  (refine aM ?_)
  exact⟨a,⟨rfl,rfl⟩,hap⟩
def yS(b:Bool):List Tree:=[.bool b]
def zOq (f:Nat) (hb:yY Tryz.prog f=true) (hbp:∀x,CC.prim f x=none) (F:Val→Val→Val) (hF:∀a b,VOK a→VOK b→Om CC f [.t (.sl false false [[.int .u8 a.k,.int .i64 a.n,.str a.s],[.int .u8 b.k,.int .i64 b.n,.str b.s]])] []=some (.val (.t (.agg [.int .u8 (F a b).k,.int .i64 (F a b).n,.str (F a b).s])),[]))
  (hFp:∀a b,VOK a→VOK b→VOK (F a b)) (e:Int) (nl cl nl2 cl2:Bool) (kl:List Ans) (nb:List Bool) (hk:∀a ∈ kl,AOK a) :
  ∃x:Ans,Om CC 116 [.t (.agg [.sl nl cl (kl.map Ans.c),.sl nl2 cl2 (nb.map yS)]),.t (.int .i64 e),.t (.fn f)] []=some (.val (.t (.agg [.int .u8 x.v.k,.int .i64 x.v.n,.str x.v.s,.int .i64 x.e])),[])∧AOK x:=by
 refine zH zYD rfl ?_
 (have F_:=c5 zF zG zN zE (c5 zD zC zQ zH8 (c5 jD xI jI jG (c3 xV yBi zOX)));show W CC 0 42 (zA 116) _ ⟨[(0,_),(1,_),(2,_)],[]⟩ _)
 obtain⟨t,ht,htp⟩:=zFA nl cl nl2 cl2 kl (nb.map yS) 0 hk;obtain⟨u,hu,hup⟩:=zFA nl cl nl2 cl2 kl (nb.map yS) 1 hk;have ht:Om CC 117 [.t (.agg [.sl nl cl (kl.map Ans.c),.sl nl2 cl2 (nb.map yS)]),.t (.int .i64 0)] []=_:=ht;have hu:Om CC 117 [.t (.agg [.sl nl cl (kl.map Ans.c),.sl nl2 cl2 (nb.map yS)]),.t (.int .i64 1)] []=_:=hu;have hf:=hF t.v u.v htp hup;have hfp:=hFp t.v u.v htp hup;clear hk hF hFp
 (repeat' first|refine gA ?_|refine gT ?_ ?_<;>intro hv<;>try cases hv;done|fail)
 all_goals refine aM ?_<;>(first|exact⟨t,⟨rfl,rfl⟩,htp⟩|exact⟨u,⟨rfl,rfl⟩,hup⟩|exact⟨⟨F t.v u.v,0⟩,⟨rfl,rfl⟩,hfp⟩)
def zP6(i:Nat)(k:Tree)(nl2 cl2:Bool)(nb:List Bool):∃r:Bool,Om CC 167 [.t (.int .i64 (i:Int)),.box 0 0] [.box [.t k,.t (.sl nl2 cl2 (nb.map yS))]]=some (.val (.t (.bool r)),[.box [.t k,.t (.sl nl2 cl2 (nb.map yS))]])∧True:=by
 refine uK zYb rfl ?_
 (have F_:=c5 zF zG zN zE (c5 zD zC zQ jD (c3 xI jI (c2 jG yD1)));show W CC 1 16 (zA 167) _ ⟨[(0,_),(1,_)],[_]⟩ _)
 by_cases hi:i<nb.length
 ·have hd:decide ((i:Int)<nb.length)=true:=by simpa using hi
  have he:nb[i]?=some nb[i]:=List.getElem?_eq_getElem hi
  (have x0_:=@yS.eq_1;(repeat' first|refine gA ?_|refine gT ?_ ?_<;>intro hv<;>try cases hv;done|fail);all_goals clear x0_)
  all_goals refine aM ?_<;>exact⟨_,⟨rfl,rfl⟩,trivial⟩
 have hd:decide ((i:Int)<nb.length)=false:=by simpa using hi
 (have x0_:=@yS.eq_1;(repeat' first|refine gA ?_|refine gT ?_ ?_<;>intro hv<;>try cases hv;done|fail);all_goals clear x0_)
 all_goals refine aM ?_<;>exact⟨_,⟨rfl,rfl⟩,trivial⟩
def zYu (a b:Val) (x y sm:Bool) (k:Tree) (nl2 cl2:Bool) (nb:List Bool) (ha:VOK a) (hb:VOK b) :
  ∃x':Ans,Om CC 165 [.t (.sl x y [[.int .u8 a.k,.int .i64 a.n,.str a.s],[.int .u8 b.k,.int .i64 b.n,.str b.s]]),.box 0 0,.box 1 0] [.box [.t k,.t (.sl nl2 cl2 (nb.map yS))],.box [.t (.bool sm)]] =
   some (.val (.t (.agg [.int .u8 x'.v.k,.int .i64 x'.v.n,.str x'.v.s,.int .i64 x'.e])),[.box [.t k,.t (.sl nl2 cl2 (nb.map yS))],.box [.t (.bool sm)]])∧AOK x'∧TB x':=by
 refine uK yAJ rfl ?_
 (have F_:=c5 zF zG zN zE (c5 zD zC zQ xI (c5 xV yFj yB7 zUA (c5 zDT zOx zD0 @zJe (c3 @qL @zB4 (c2 @uZ @zDA)))));show W CC 2 53 (zA 165) _ ⟨[(0,_),(1,_),(2,_)],[_,_]⟩ _)
 obtain⟨r0,h0,_⟩:=zP6 0 k nl2 cl2 nb;obtain⟨r1,h1,_⟩:=zP6 1 k nl2 cl2 nb;have h0:Om CC 167 [.t (.int .i64 0),.box 0 0] _=_:=h0;have h1:Om CC 167 [.t (.int .i64 1),.box 0 0] _=_:=h1;obtain⟨z,hz,_⟩:=zHb [a,b] x y (by simp);simp only[List.map_cons,List.map_nil,Val.c] at hz;clear ha hb
 (repeat' first|refine gA ?_|refine gT ?_ ?_<;>intro hv<;>try cases hv;done|fail)
 all_goals refine aM ?_<;>(first|exact⟨⟨uN _,0⟩,⟨rfl,rfl⟩,zCr _,zJL _⟩|exact⟨AZero,⟨rfl,rfl⟩,yU,zB2⟩|exact⟨Fail 8,⟨rfl,rfl⟩,zDY _,zTJ _ (by decide)⟩)
def zKT(nl cl nl2 cl2:Bool)(kl:List Ans)(nb:List Bool)(hk:∀a ∈ kl,AOK a)(sm:Bool):∃x:Ans,Om CC 118 [.t (.agg [.sl nl cl (kl.map Ans.c),.sl nl2 cl2 (nb.map yS)]),.t (.bool sm)] []=some (.val (.t (.agg [.int .u8 x.v.k,.int .i64 x.v.n,.str x.v.s,.int .i64 x.e])),[])∧AOK x∧TB x:=by
 refine zH zZv rfl ?_
 (have F_:=c5 zF zG zN zE (c5 zD zC zQ jD (c5 xI jI jG zBq (c2 yBC zIp)));show W CC 0 8 (zA 118) _ ⟨[(0,_),(1,_)],[]⟩ _)
 obtain⟨t,ht,htp⟩:=zTh (fun a=>AOK a∧TB a) (fun a h he=>⟨h,h,.inl he⟩) 165 yCU (fun x=>yA _ x (by decide)) (.sl nl cl (kl.map Ans.c)) (.sl nl2 cl2 (nb.map yS)) (.bool sm) nl cl nl2 cl2 kl (nb.map yS) 2 (by decide) hk (fun l x y hl hv=>by
  match l,hl,hv with
  |[a,b],_,hv =>
   obtain⟨r,hr,hrp⟩:=zYu a b x y sm (.sl nl cl (kl.map Ans.c)) nl2 cl2 nb (hv a (by simp)) (hv b (by simp));exact⟨r,hr,hrp⟩)
 have ht:Om CC 133 [.t (.agg [.sl nl cl (kl.map Ans.c),.sl nl2 cl2 (nb.map yS)]),.t (.int .i64 2),.fn 165 [] [.box 0 0,.box 1 0]] _=_:=ht;clear hk
 (repeat' first|refine gA ?_|refine gT ?_ ?_<;>intro hv<;>try cases hv;done|fail)
 all_goals refine aM ?_<;>exact⟨t,⟨rfl,rfl⟩,htp⟩
def zMJ(c:Int):∃x:Bool,Om CC 120 [.t (.int .i64 c)] []=some (.val (.t (.bool x)),[])∧(True):=by
 refine zH zX5 rfl ?_
 (have F_:=c2 zG yC7;show W CC 0 5 (zA 120) _ ⟨[(0,_)],[]⟩ _)
 (repeat' first|refine gA ?_|refine gT ?_ ?_<;>intro hv<;>try cases hv;done|fail)
 all_goals refine aM ?_<;>exact⟨_,⟨rfl,rfl⟩,by trivial⟩
noncomputable def zXe(c:Int):Bool:=(zMJ c).choose
def zU9(c:Int):Om CC 120 [.t (.int .i64 c)] []=some (.val (.t (.bool (zXe c))),[]):=(zMJ c).choose_spec.1
def zM4(c:Int):∃x:Bool,Om CC 121 [.t (.int .i64 c)] []=some (.val (.t (.bool x)),[])∧(True):=by
 refine zH zZf rfl ?_
 (have F_:=c2 zG yDa;show W CC 0 5 (zA 121) _ ⟨[(0,_)],[]⟩ _)
 (repeat' first|refine gA ?_|refine gT ?_ ?_<;>intro hv<;>try cases hv;done|fail)
 all_goals refine aM ?_<;>exact⟨_,⟨rfl,rfl⟩,by trivial⟩
noncomputable def zWX(c:Int):Bool:=(zM4 c).choose
def zVD(c:Int):Om CC 121 [.t (.int .i64 c)] []=some (.val (.t (.bool (zWX c))),[]):=(zM4 c).choose_spec.1
def zM1(c:Int):∃x:Bool,Om CC 122 [.t (.int .i64 c)] []=some (.val (.t (.bool x)),[])∧(True):=by
 refine zH zXt rfl ?_
 (have F_:=c2 zG yAP;show W CC 0 5 (zA 122) _ ⟨[(0,_)],[]⟩ _)
 (repeat' first|refine gA ?_|refine gT ?_ ?_<;>intro hv<;>try cases hv;done|fail)
 all_goals refine aM ?_<;>exact⟨_,⟨rfl,rfl⟩,by trivial⟩
noncomputable def zWM(c:Int):Bool:=(zM1 c).choose
def zVZ(c:Int):Om CC 122 [.t (.int .i64 c)] []=some (.val (.t (.bool (zWM c))),[]):=(zM1 c).choose_spec.1
def zMV(c:Int):∃x:Bool,Om CC 123 [.t (.int .i64 c)] []=some (.val (.t (.bool x)),[])∧(True):=by
 refine zH zYl rfl ?_
 (have F_:=c2 zG yFX;show W CC 0 5 (zA 123) _ ⟨[(0,_)],[]⟩ _)
 (repeat' first|refine gA ?_|refine gT ?_ ?_<;>intro hv<;>try cases hv;done|fail)
 all_goals refine aM ?_<;>exact⟨_,⟨rfl,rfl⟩,by trivial⟩
noncomputable def zWD(c:Int):Bool:=(zMV c).choose
def zVG(c:Int):Om CC 123 [.t (.int .i64 c)] []=some (.val (.t (.bool (zWD c))),[]):=(zMV c).choose_spec.1
def zVB (g:Nat) (hg:yY Tryz.prog g=true) (hgp:∀x,CC.prim g x=none) (G:Int→Bool) (hG:∀c,Om CC g [.t (.int .i64 c)] []=some (.val (.t (.bool (G c))),[])) (a b:Val) (x y:Bool) :
  ∃x':Ans,Om CC 169 [.t (.sl x y [[.int .u8 a.k,.int .i64 a.n,.str a.s],[.int .u8 b.k,.int .i64 b.n,.str b.s]]),.box 0 0] [.box [.t (.fn g)]]=some (.val (.t (.agg [.int .u8 x'.v.k,.int .i64 x'.v.n,.str x'.v.s,.int .i64 x'.e])),[.box [.t (.fn g)]])∧AOK x'∧TB x':=by
 refine uK zXJ rfl ?_
 (have F_:=c5 zF zG zN zE (c5 zD zC zQ zNV (c5 xI xV yA1 zUA (c5 zDT zOx zOO zD0 (c5 @zJe @qL @zB4 @uZ @zDA))));show W CC 1 35 (zA 169) _ ⟨[(0,_),(1,_)],[_]⟩ _)
 obtain⟨z,hz,_⟩:=zHb [a,b] x y (by simp);obtain⟨f1,hf1,_⟩:=zG9 1 2 [a,b] x y (by simp);obtain⟨f2,hf2,_⟩:=zG9 3 3 [a,b] x y (by simp);simp only[List.map_cons,List.map_nil,Val.c] at hz hf1 hf2
 (repeat' first|refine gA ?_|refine gT ?_ ?_<;>intro hv<;>try cases hv;done|fail)
 all_goals refine aM ?_<;>(first|exact⟨⟨uN _,0⟩,⟨rfl,rfl⟩,zCr _,zJL _⟩|exact⟨AZero,⟨rfl,rfl⟩,yU,zB2⟩|exact⟨Fail 8,⟨rfl,rfl⟩,zDY _,zTJ _ (by decide)⟩)
def zFh (g:Nat) (hg:yY Tryz.prog g=true) (hgp:∀x,CC.prim g x=none) (G:Int→Bool) (hG:∀c,Om CC g [.t (.int .i64 c)] []=some (.val (.t (.bool (G c))),[])) (nl cl nl2 cl2:Bool) (kl:List Ans) (nb:List Bool) (hk:∀a ∈ kl,AOK a) :
  ∃x:Ans,Om CC 119 [.t (.agg [.sl nl cl (kl.map Ans.c),.sl nl2 cl2 (nb.map yS)]),.t (.fn g)] []=some (.val (.t (.agg [.int .u8 x.v.k,.int .i64 x.v.n,.str x.v.s,.int .i64 x.e])),[])∧AOK x∧TB x:=by
 refine zH zXE rfl ?_
 (have F_:=c5 zF zG zN zE (c5 zD zC zQ zNV (c5 jD xI jI jG (c3 zBq yGJ zIp)));show W CC 0 8 (zA 119) _ ⟨[(0,_),(1,_)],[]⟩ _)
 obtain⟨t,ht,htp⟩:=zMD (fun a=>AOK a∧TB a) (fun a h he=>⟨h,h,.inl he⟩) 169 yFt (fun x=>yA _ x (by decide)) (.fn g) nl cl nl2 cl2 kl (nb.map yS) 2 (by decide) hk (fun l x y hl hv=>by
  match l,hl,hv with
  |[a,b],_,hv=>exact zVB g hg hgp G hG a b x y)
 have ht:Om CC 133 [.t (.agg [.sl nl cl (kl.map Ans.c),.sl nl2 cl2 (nb.map yS)]),.t (.int .i64 2),.fn 169 [] [.box 0 0]] _=_:=ht;clear hk hG
 (repeat' first|refine gA ?_|refine gT ?_ ?_<;>intro hv<;>try cases hv;done|fail)
 all_goals refine aM ?_<;>exact⟨t,⟨rfl,rfl⟩,htp⟩
def zSg (g:Nat) (hg:yY Tryz.prog g=true) (hgp:∀x,CC.prim g x=none) (kind:Int) (l:List Val) (hl:l.length<9223372036854775808) (x y:Bool) (r:Ans) (hr:Om CC g [.t (.sl x y (l.map Val.c))] []=some (.val (.t (.agg [.int .u8 r.v.k,.int .i64 r.v.n,.str r.v.s,.int .i64 r.e])),[])) (hrp:AOK r) :
  ∃x':Ans,Om CC 171 [.t (.sl x y (l.map Val.c)),.box 0 0,.box 1 0] [.box [.t (.int .u8 kind)],.box [.t (.fn g)]]=some (.val (.t (.agg [.int .u8 x'.v.k,.int .i64 x'.v.n,.str x'.v.s,.int .i64 x'.e])),[.box [.t (.int .u8 kind)],.box [.t (.fn g)]])∧AOK x':=by
 refine uK zYv rfl ?_
 (have F_:=c5 zF zN zE zD (c5 zC zQ xI xV (c5 zBq yBD zOx zOO (c2 zD0 @zB4)));show W CC 2 19 (zA 171) _ ⟨[(0,_),(1,_),(2,_)],[_,_]⟩ _)
 obtain⟨z,hz,_⟩:=zHb l x y hl;obtain⟨f1,hf1,_⟩:=zG9 kind kind l x y hl
 (repeat' first|refine gA ?_|refine gT ?_ ?_<;>intro hv<;>try cases hv;done|fail)
 all_goals refine aM ?_<;>(first|exact⟨r,⟨rfl,rfl⟩,hrp⟩|exact⟨AZero,⟨rfl,rfl⟩,yU⟩|exact⟨Fail 8,⟨rfl,rfl⟩,zDY _⟩)
def zFc (g:Nat) (hg:yY Tryz.prog g=true) (hgp:∀x,CC.prim g x=none) (kind:Int) (n:Nat) (hn:n<4294967295) (hG:∀(l:List Val) (x y:Bool),l.length=n→(∀v ∈ l,VOK v)→∃r:Ans,Om CC g [.t (.sl x y (l.map Val.c))] []=some (.val (.t (.agg [.int .u8 r.v.k,.int .i64 r.v.n,.str r.v.s,.int .i64 r.e])),[])∧AOK r) (nl cl nl2 cl2:Bool) (kl:List Ans) (nb:List Bool) (hk:∀a ∈ kl,AOK a) :
  ∃x:Ans,Om CC 124 [.t (.agg [.sl nl cl (kl.map Ans.c),.sl nl2 cl2 (nb.map yS)]),.t (.int .i64 (n:Int)),.t (.int .u8 kind),.t (.fn g)] []=some (.val (.t (.agg [.int .u8 x.v.k,.int .i64 x.v.n,.str x.v.s,.int .i64 x.e])),[])∧AOK x:=by
 refine zH yAn rfl ?_
 (have F_:=c5 zF zG zN zE (c5 zD zC zQ jD (c5 xI jI jG zBq (c2 yDT zIp)));show W CC 0 13 (zA 124) _ ⟨[(0,_),(1,_),(2,_),(3,_)],[]⟩ _)
 obtain⟨t,ht,htp⟩:=zTd 171 yCc (fun x=>yA _ x (by decide)) (.int .u8 kind) (.fn g) nl cl nl2 cl2 kl (nb.map yS) n hn hk (fun l x y hl hv=>by
  obtain⟨r,hr,hrp⟩:=hG l x y hl hv;exact zSg g hg hgp kind l (by omega) x y r hr hrp)
 clear hk hG
 (repeat' first|refine gA ?_|refine gT ?_ ?_<;>intro hv<;>try cases hv;done|fail)
 all_goals refine aM ?_<;>exact⟨t,⟨rfl,rfl⟩,htp⟩
def zU8 (g:Nat) (hg:yY Tryz.prog g=true) (hgp:∀x,CC.prim g x=none) (a b:Val) (x y:Bool) (r:Val×Int) (hr:Om CC g [.t (.agg [.int .u8 a.k,.int .i64 a.n,.str a.s]),.t (.agg [.int .u8 b.k,.int .i64 b.n,.str b.s])] []=some (.val (.tup [.t (.agg [.int .u8 r.1.k,.int .i64 r.1.n,.str r.1.s]),.t (.int .i64 r.2)]),[])) (hrp:VOK r.1) :
  ∃x':Ans,Om CC 173 [.t (.sl x y [[.int .u8 a.k,.int .i64 a.n,.str a.s],[.int .u8 b.k,.int .i64 b.n,.str b.s]]),.box 0 0] [.box [.t (.fn g)]]=some (.val (.t (.agg [.int .u8 x'.v.k,.int .i64 x'.v.n,.str x'.v.s,.int .i64 x'.e])),[.box [.t (.fn g)]])∧AOK x':=by
 refine uK zY9 rfl ?_
 (have F_:=c5 zF zE zD zC (c5 zQ xI xV zOr (c5 yE9 zGl @zEQ @uZ @zDA));show W CC 1 15 (zA 173) _ ⟨[(0,_),(1,_)],[_]⟩ _)
 (repeat' first|refine gA ?_|refine gT ?_ ?_<;>intro hv<;>try cases hv;done|fail)
 all_goals refine aM ?_<;>exact⟨Told r.1 r.2,⟨rfl,rfl⟩,zGv _ _ hrp⟩
def zIW (g:Nat) (hg:yY Tryz.prog g=true) (hgp:∀x,CC.prim g x=none) (hG:∀a b:Val,VOK a→VOK b→∃r:Val×Int,Om CC g [.t (.agg [.int .u8 a.k,.int .i64 a.n,.str a.s]),.t (.agg [.int .u8 b.k,.int .i64 b.n,.str b.s])] []=some (.val (.tup [.t (.agg [.int .u8 r.1.k,.int .i64 r.1.n,.str r.1.s]),.t (.int .i64 r.2)]),[])∧VOK r.1) (nl cl nl2 cl2:Bool) (kl:List Ans) (nb:List Bool) (hk:∀a ∈ kl,AOK a) :
  ∃x:Ans,Om CC 128 [.t (.agg [.sl nl cl (kl.map Ans.c),.sl nl2 cl2 (nb.map yS)]),.t (.fn g)] []=some (.val (.t (.agg [.int .u8 x.v.k,.int .i64 x.v.n,.str x.v.s,.int .i64 x.e])),[])∧AOK x:=by
 refine zH zXp rfl ?_
 (have F_:=c5 zF zG zN zE (c5 zD zC zQ jD (c5 xI jI jG zBq (c3 zOr yBq zIp)));show W CC 0 8 (zA 128) _ ⟨[(0,_),(1,_)],[]⟩ _)
 obtain⟨t,ht,htp⟩:=zMD AOK (fun a h _=>h) 173 yB3 (fun x=>yA _ x (by decide)) (.fn g) nl cl nl2 cl2 kl (nb.map yS) 2 (by decide) hk (fun l x y hl hv=>by
  match l,hl,hv with
  |[a,b],_,hv =>
   obtain⟨r,hr,hrp⟩:=hG a b (hv a (by simp)) (hv b (by simp));exact zU8 g hg hgp a b x y r hr hrp)
 have ht:Om CC 133 [.t (.agg [.sl nl cl (kl.map Ans.c),.sl nl2 cl2 (nb.map yS)]),.t (.int .i64 2),.fn 173 [] [.box 0 0]] _=_:=ht;clear hk hG
 (repeat' first|refine gA ?_|refine gT ?_ ?_<;>intro hv<;>try cases hv;done|fail)
 all_goals refine aM ?_<;>exact⟨t,⟨rfl,rfl⟩,htp⟩
end Go.Ab
