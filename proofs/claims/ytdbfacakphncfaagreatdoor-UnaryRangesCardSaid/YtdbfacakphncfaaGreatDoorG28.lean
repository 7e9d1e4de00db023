/- Lemmas. -/
import Derived.Test.YtdbfacakphncfaaGreatDoorG27
set_option maxRecDepth 1000000
set_option maxHeartbeats 40000000
set_option linter.all false
namespace Go.Ab
open Go.Proofs
attribute [local irreducible] W RW RR
def zNP(x:RN)(k:Nat)(hx:RNK k x)(hk:k<4000000)(ten:RN)(h10:RNK 5 ten):∃z:RN,Om CC 152 [.t (.agg x.c),.t (.agg ten.c)] []=some (.val (.t (.agg z.c)),[])∧RNK (k+5) z:=by
 obtain⟨z,hz,z1,-⟩:=zOA x ten k 5 hx h10 (by omega);exact⟨z,hz,z1⟩
def zRF(s:List Nat)(ld:∀(i c:Nat) (h:s[i]?=some c),index Tryz.prog 9 (.t (.str s)) (i:Int)=some (.t (.int .u8 (c:Int)))):∃(first:Nat) (neg:Bool),first≤s.length ∧
  (decide ((s.length:Int) > 0)=false∧first=0∧neg=false∨∃c:Nat,decide ((s.length:Int) > 0)=true∧index Tryz.prog 9 (.t (.str s)) 0=some (.t (.int .u8 (c:Int)))∧(((c:Int)==45)=true∧first=1∧neg=true∨((c:Int)==45)=false∧first=0∧neg=false)):=by
 cases s with
 |nil=>exact⟨0,false,Nat.le_refl _,.inl ⟨rfl,rfl,rfl⟩⟩
 |cons c r =>
  have hd:decide (((c::r).length:Int) > 0)=true:=decide_eq_true (by simp only[List.length_cons];omega);have h0:=ld 0 c rfl;cases hc:((c:Int)==45) with
  |true=>exact⟨1,true,by simp,.inr ⟨c,hd,h0,.inl ⟨hc,rfl,rfl⟩⟩⟩
  |false=>exact⟨0,false,by simp,.inr ⟨c,hd,h0,.inr ⟨hc,rfl,rfl⟩⟩⟩
def yHH(s:List Nat)(first:Nat)(neg:Bool)(e:Ex)(st:St):Prop:=e=.normal∧st.h=[.box [.t (.bool false),.t (.sl true true [])],.box [.t (.bool false),.t (.sl true true [])]]∧Ab.get st.T 0=.t (.str s)∧Ab.get st.T 2=.box 0 0∧Ab.get st.T 5=.box 1 0 ∧
 Ab.get st.T 6=.t (.int .i64 (first:Int))∧Ab.get st.T 7=.t (.int .i64 (-1))∧Ab.get st.T 8=.t (.bool neg)∧Ab.get st.T 9=.t (.int .i64 (first:Int))∧Ab.get st.T 110=.unk
def zO8(s:List Nat)(hs:s.length≤402):∃x:RN×Bool×Bool,Om CC 95 [.t (.str s)] []=some (.val (.tup [.t (.agg x.1.c),.t (.bool x.2.1),.t (.bool x.2.2)]),[])∧(RNK 3000 x.1):=by
 refine zH yDX rfl ?_;have ld:Hid _:=⟨fun(i c:Nat) (h:s[i]?=some c)=>(xL h:index Tryz.prog 9 (.t (.str s)) (i:Int)=some (.t (.int .u8 (c:Int))))⟩
 obtain⟨first,neg,hf,hcase⟩:=zRF s ld.h;have hs2:Hid _:=⟨hs⟩
 have hf2:Hid _:=⟨hf⟩
 clear hs hf
 (have F_:=c5 zF zG zN zE (c5 zD zK vX yI8 (c3 zE4 zSJ (c2 zUY zUT)));show W CC 0 110 (zA 95) _ ⟨[(0,_)],[]⟩ _)
 refine zAi (zAi (zAi (zAi (zBg (W.mono (Q:=yHH s first neg) ?_ ?_)))))
 ·rcases hcase with ⟨hl0,rfl,rfl⟩|⟨c0,hl0,hi0,⟨hc0,rfl,rfl⟩|⟨hc0,rfl,rfl⟩⟩
  all_goals (repeat' first|refine gA ?_|refine gT ?_ ?_<;>intro hv<;>try cases hv;done|fail)<;>exact⟨rfl,rfl,rfl,rfl,rfl,rfl,rfl,rfl,rfl,rfl⟩
 rintro e ⟨T9,h9⟩ ⟨rfl,hh,g0,g2,g5,g6,g7,g8,g9,gN⟩;dsimp only at hh g0 g2 g5 g6 g7 g8 g9 gN;subst hh;clear hcase
 (repeat' first|refine gA ?_|refine gT ?_ ?_<;>intro hv<;>try cases hv;done|fail)
 refine zW (α:=Nat×Int×RN) (fun a=>⟨[(0,.t (.str s)),(2,.box 0 0),(5,.box 1 0),(6,.t (.int .i64 a.1)),(7,.t (.int .i64 a.2.1)),(8,.t (.bool neg)),(9,.t (.int .i64 (first:Int)))],[.box [.t (.bool false),.t (.sl true true [])],.box [.t (.bool a.2.2.neg),.t (a.2.2.d.t intC)]]⟩) (fun a=>s.length - a.1)
  (fun a=>first≤a.1∧a.1≤s.length∧(a.2.1=-1∨∃p:Nat,a.2.1=p∧first<p∧p<a.1)∧RNK (6 * a.1+5) a.2.2) (first,-1,⟨false,true,true,[]⟩) (by(have X_:=c5 @g0 @g2 @g5 @g6 (c3 @g7 @g8 (c2 @g9 @gN));exact aTdX)) ⟨Nat.le_refl _,hf2.h,.inl rfl,⟨zA5,zIj,fun h=>(by cases h),Nat.zero_le _⟩⟩ ?_
 clear g0 g2 g5 g6 g7 g8 g9 gN;rintro⟨at_,pt,xn,xnl,xcl,xl⟩ ⟨h1,h2,h3,h4⟩;dsimp only at h1 h2 h3 h4;obtain⟨ten,hten,t10,-,-⟩:=zDq 10 ⟨by decide,by decide⟩;have hs:=hs2.h
 by_cases hlt:at_<s.length
 ·have hd:decide ((at_:Int)<(s.length:Int))=true:=by simpa using hlt
  have hx:=ld.h at_ s[at_] (List.getElem?_eq_getElem hlt);have hw:=wI64 at_ (by omega);generalize s[at_]=c at hx;obtain⟨M,hM,m1⟩:=zNP _ _ h4 (by omega) ten t10;obtain⟨D,hD,d1,-,-⟩:=zDq (IntKind.i64.wrap (IntKind.u8.wrap ((c:Int) - 48))) (zCp _);obtain⟨A,hA,a1,-,-⟩:=zOo M D (6 * at_+5+5) m1 (d1.mono (by omega)) (by omega);have hAK:Hid (RNK (6 * (at_+1)+5) A):=⟨a1.mono (by omega)⟩
  have hXK:Hid (RNK (6 * (at_+1)+5) ⟨xn,xnl,xcl,xl⟩∧RNK 3000 ⟨xn,xnl,xcl,xl⟩):=⟨h4.mono (by omega),h4.mono (by omega)⟩
  obtain⟨tn,tl⟩:=ten;obtain⟨Mn,Ml⟩:=M;obtain⟨Dn,Dl⟩:=D;obtain⟨An,Al⟩:=A;simp only[RN.c,Sl.t] at hten hM hD hA;simp only[Sl.t];have hb:Hid _:=⟨And.intro h1 (And.intro hlt h2)⟩
  have hbb:Hid _:=⟨h3⟩
  by_cases hg:first<at_
  ·have dg:decide ((at_:Int) > (first:Int))=true:=decide_eq_true (by omega);have hg2:Hid _:=⟨hg⟩
   rcases h3 with rfl|⟨p,rfl,hp1,hp2⟩
   ·clear h1 h2 h4 t10 m1 d1 a1 hs hlt hg
    (repeat' first|refine gA ?_|refine gT ?_ ?_<;>intro hv<;>try cases hv;done|fail)
    all_goals first
     |exact zB (at_+1,-1,⟨An,Al⟩) (by have:=hb.h;dsimp only;omega) ⟨by have:=hb.h;dsimp only;omega,by have:=hb.h;dsimp only;omega,.inl rfl,hAK.h⟩ (by exact aTd)
     |exact zB (at_+1,(at_:Int),⟨xn,xnl,xcl,xl⟩) (by have:=hb.h;dsimp only;omega) ⟨by have:=hb.h;dsimp only;omega,by have:=hb.h;dsimp only;omega,.inr ⟨at_,rfl,hg2.h,Nat.lt_succ_self _⟩,hXK.h.1⟩ (by exact aTd)
     |((refine aM ?_);exact⟨(⟨xn,⟨_,_,_⟩⟩,_,_),⟨rfl,rfl⟩,hXK.h.2⟩)
   have dp:decide ((p:Int)<0)=false:=decide_eq_false (by omega);clear h1 h2 h4 t10 m1 d1 a1 hs hlt hg hp1 hp2
   (repeat' first|refine gA ?_|refine gT ?_ ?_<;>intro hv<;>try cases hv;done|fail)
   all_goals first
    |exact zB (at_+1,(p:Int),⟨An,Al⟩) (by have:=hb.h;dsimp only;omega) ⟨by have:=hb.h;dsimp only;omega,by have:=hb.h;dsimp only;omega,(by rcases hbb.h with h|⟨q,h,h',h''⟩;exact .inl h;exact .inr ⟨q,h,h',by dsimp only;omega⟩),hAK.h⟩ (by exact aTd)
    |((refine aM ?_);exact⟨(⟨xn,⟨_,_,_⟩⟩,_,_),⟨rfl,rfl⟩,hXK.h.2⟩)
  have dg:decide ((at_:Int) > (first:Int))=false:=decide_eq_false (by omega);have hpt:pt=-1:=by rcases h3 with h|⟨p,_,hp1,hp2⟩;exact h;omega
  subst hpt;clear h1 h2 h3 h4 t10 m1 d1 a1 hs hlt hg
  (repeat' first|refine gA ?_|refine gT ?_ ?_<;>intro hv<;>try cases hv;done|fail)
  all_goals first
   |exact zB (at_+1,-1,⟨An,Al⟩) (by have:=hb.h;dsimp only;omega) ⟨by have:=hb.h;dsimp only;omega,by have:=hb.h;dsimp only;omega,.inl rfl,hAK.h⟩ (by exact aTd)
   |((refine aM ?_);exact⟨(⟨xn,⟨_,_,_⟩⟩,_,_),⟨rfl,rfl⟩,hXK.h.2⟩)
 have hd:decide ((at_:Int)<(s.length:Int))=false:=by simpa using hlt
 have hat:at_=s.length:=by omega
 subst hat;obtain⟨N,hN,n1,-⟩:=zJF _ _ h4 (by omega);have hNK:Hid (RNK 3000 N∧RNK 3000 ⟨xn,xnl,xcl,xl⟩):=⟨n1.mono (by omega),h4.mono (by omega)⟩
 have wf:=wI64 first (by omega)
 rcases h3 with rfl|⟨p,rfl,hp1,hp2⟩
 ·obtain⟨Nn,Nl⟩:=N;simp only[RN.c,Sl.t] at hN;simp only[Sl.t]
  by_cases he:s.length=first
  ·have hee:((s.length:Int)==(first:Int))=true:=by simp [he]
   clear h1 h2 h4 t10 hten hs hlt he n1
   (repeat' first|refine gA ?_|refine gT ?_ ?_<;>intro hv<;>try cases hv;done|fail)
   all_goals refine aM ?_<;>exact⟨(⟨xn,⟨_,_,_⟩⟩,_,_),⟨rfl,rfl⟩,hNK.h.2⟩
  have hee:((s.length:Int)==(first:Int))=false:=by simp;omega
  have hx1:=ld.h first s[first] (List.getElem?_eq_getElem (by omega))
  generalize s[first]'(by omega)=c1 at hx1;clear h1 h2 h4 t10 hten hs hlt he n1
  (repeat' first|refine gA ?_|refine gT ?_ ?_<;>intro hv<;>try cases hv;done|fail)
  all_goals refine aM ?_
  all_goals first
   |exact⟨(⟨xn,⟨_,_,_⟩⟩,_,_),⟨rfl,rfl⟩,hNK.h.2⟩
   |exact⟨(⟨Nn,⟨_,_,_⟩⟩,_,_),⟨rfl,rfl⟩,hNK.h.1⟩
 clear hN n1;have dp:decide ((p:Int) ≥ 0)=true:=decide_eq_true (by omega);have w1:IntKind.i64.wrap ((s.length:Int) - (p:Int))=((s.length - p:Nat):Int):=by rw[wrap64]<;>omega
 have w2:IntKind.i64.wrap (((s.length - p:Nat):Int) - 1)=((s.length - p - 1:Nat):Int):=by rw[wrap64]<;>omega
 generalize hmm:s.length - p - 1=m at w2;generalize s.length - p=m' at w1 w2;simp only[Sl.t];have hpp:Hid _:=⟨And.intro hp1 hp2⟩
 by_cases hm1:m<1∨m > 4
 ·have hq:(decide ((m:Int)<1)=true)∨(decide ((m:Int)<1)=false∧decide ((m:Int) > 4)=true):=by
   by_cases h:m<1
   ·exact .inl (decide_eq_true (by omega))
   exact .inr ⟨decide_eq_false (by omega),decide_eq_true (by omega)⟩
  clear h1 h2 h4 t10 hten hs hlt hm1 hmm hp1 hp2;rcases hq with q1|⟨q1,q2⟩
  ·(repeat' first|refine gA ?_|refine gT ?_ ?_<;>intro hv<;>try cases hv;done|fail)
   all_goals refine aM ?_<;>exact⟨(⟨xn,⟨_,_,_⟩⟩,_,_),⟨rfl,rfl⟩,hNK.h.2⟩
  (repeat' first|refine gA ?_|refine gT ?_ ?_<;>intro hv<;>try cases hv;done|fail)
  all_goals refine aM ?_<;>exact⟨(⟨xn,⟨_,_,_⟩⟩,_,_),⟨rfl,rfl⟩,hNK.h.2⟩
 have q1:decide ((m:Int)<1)=false:=decide_eq_false (by omega);have q2:decide ((m:Int) > 4)=false:=decide_eq_false (by omega);have hmj:Hid (1≤m∧m≤4):=⟨by omega⟩
 have h42:Hid _:=⟨h4⟩
 have h10:Hid _:=⟨t10⟩
 clear h1 h2 h4 t10 hs hlt hm1 hmm hp1 hp2
 (repeat' first|refine gA ?_|refine gT ?_ ?_<;>intro hv<;>try cases hv;done|fail)
 refine zW (α:=Nat×RN) (fun a=>⟨[(0,.t (.str s)),(2,.box 0 0),(5,.box 1 0),(7,.t (.int .i64 (p:Int))),(8,.t (.bool neg)),(9,.t (.int .i64 (first:Int))),(10,.t (.int .i64 (p:Int))),(11,.t (.int .i64 a.1))],[.box [.t (.bool false),.t (.sl true true [])],.box [.t (.bool a.2.neg),.t (a.2.d.t intC)]]⟩) (fun a=>4 - a.1)
  (fun a=>a.1≤4∧RNK (2500+5 * a.1) a.2) (m,⟨xn,xnl,xcl,xl⟩) (by exact aTd) ⟨hmj.h.2,h42.h.mono (by have:=hs2.h;omega)⟩ ?_
 rintro⟨j,yn,ynl,ycl,yl⟩ ⟨g1,g2⟩;dsimp only at g1 g2;simp only[Sl.t]
 by_cases hj:j<4
 ·have dj:decide ((j:Int)<4)=true:=decide_eq_true (by omega);have wj:=wI64 j (by omega);obtain⟨M,hM,m1⟩:=zNP _ _ g2 (by omega) ten h10.h;have hMK:Hid _:=⟨And.intro hj (m1.mono (show 2500+5 * j+5≤2500+5 * (j+1) by omega))⟩
  obtain⟨tn,tl⟩:=ten;obtain⟨Mn,Ml⟩:=M;simp only[RN.c,Sl.t] at hten hM;clear g1 g2 m1 hj
  (repeat' first|refine gA ?_|refine gT ?_ ?_<;>intro hv<;>try cases hv;done|fail)
  all_goals exact zB (j+1,⟨Mn,Ml⟩) (by have:=hMK.h.1;dsimp only;omega) ⟨by have:=hMK.h.1;dsimp only;omega,hMK.h.2⟩ (by exact aTd)
 have dj:decide ((j:Int)<4)=false:=decide_eq_false (by omega);have hpf:((p:Int)==(first:Int))=false:=by have:=hpp.h;simp;omega
 have hx1:=ld.h first (s[first]'(by have:=hpp.h;omega)) (List.getElem?_eq_getElem (by have:=hpp.h;omega))
 generalize s[first]'(by have:=hpp.h;omega)=c1 at hx1;obtain⟨N,hN,n1,-⟩:=zJF _ _ g2 (by omega);have hNK2:Hid (RNK 3000 N∧RNK 3000 ⟨yn,ynl,ycl,yl⟩):=⟨n1.mono (by omega),g2.mono (by omega)⟩
 obtain⟨Nn,Nl⟩:=N;simp only[RN.c,Sl.t] at hN;clear g1 g2 n1 hj hten
 (repeat' first|refine gA ?_|refine gT ?_ ?_<;>intro hv<;>try cases hv;done|fail)
 all_goals refine aM ?_
 all_goals first
  |exact⟨(⟨yn,⟨_,_,_⟩⟩,_,_),⟨rfl,rfl⟩,hNK2.h.2⟩
  |exact⟨(⟨Nn,⟨_,_,_⟩⟩,_,_),⟨rfl,rfl⟩,hNK2.h.1⟩
def zU1{g:Look}{s:List Nat}{k:Nat}(h:k≤s.length):slice Tryz.prog g 9 (.t (.str s)) none (some (k:Int)) none=some (.t (.str (s.take k))):=by
 have:=vH (g:=g) (s:=s) (lo:=0) (hi:=k) (Nat.zero_le _) h;unfold slice at this ⊢;simp only[Option.getD_none,Option.getD_some] at this ⊢;exact this
def cutQ(N:St→Prop)(Q:Ex→St→Prop):Ex→St→Prop
 |.normal,st=>N st
 |e,st=>Q e st
def yIL{C:Cfg}{m k:Nat}{keep:Nat→Option (List Nat)}{st:St}{Q:Ex→St→Prop}{a b:Code}(N:St→Prop)(h1:W C m k keep a st (cutQ N Q))(h2:∀st,N st→W C m k keep b st Q):W C m k keep (a.seq b) st Q :=
 zBg (h1.mono fun e st h=>by cases e<;>first|exact h2 st h|exact h)
def zYO{N:St→Prop}{Q:Ex→St→Prop}{st:St}(h:Q .ret st):cutQ N Q .ret st:=h
def yJm(k n:Int)(s:List Nat)(x:Tree)(Xn:Bool)(st:St):Prop:=st.h=[.box [.t (.int .u8 k),.t (.int .i64 n),.t (.str s)],.box [.t (.bool Xn),.t x]]∧Ab.get st.T 1=.box 0 0∧Ab.get st.T 3=.box 1 0∧Ab.get st.T 103=.unk∧∃sg:List Nat,sg.length≤1∧Ab.get st.T 4=.t (.str sg)
def zBE(k n:Int)(s:List Nat)(hn:R64 n)(hs:s.length<1000000):∃r:List Nat,Om CC 100 [.t (.agg [.int .u8 k,.int .i64 n,.str s])] []=some (.val (.t (.str r)),[])∧(True):=by
 refine zH yAu rfl ?_;have ld:Hid _:=⟨fun(i c:Nat) (h:s[i]?=some c)=>(xL h:index Tryz.prog 9 (.t (.str s)) (i:Int)=some (.t (.int .u8 (c:Int))))⟩
 obtain⟨mb,hmay,-⟩:=zAN k n s hs;obtain⟨X,hX,x1,x2,-⟩:=zDq n hn;have hxv:dv X.d.l<10000000000000000000:=by rw[x2];have:=hn.1;have:=hn.2;omega
 obtain⟨r1,hr1,r11,r12⟩:=zI4 X 1 x1 hxv (by decide);obtain⟨r5,hr5,r51,r52⟩:=zI4 X 5 x1 hxv (by decide);have ld5:Hid _:=⟨fun(i c:Nat) (h:r5[i]?=some c)=>(xL h:index Tryz.prog 9 (.t (.str r5)) (i:Int)=some (.t (.int .u8 (c:Int))))⟩
 have hr5l:Hid _:=⟨And.intro r51 r52⟩
 have sa5:binop Tryz.prog .add 9 (.t (.str [35])) (.t (.str s))=some (.t (.str ([35]++s))):=yO (by simp only[List.length_singleton];omega);have sg1:Hid (∀g:List Nat,g.length≤1→binop Tryz.prog .add 9 (.t (.str g)) (.t (.str r1))=some (.t (.str (g++r1)))):=⟨fun g hg=>yO (by omega)⟩
 have hs2:Hid _:=⟨hs⟩
 have r0:5≤r5.length:=r51;clear hs hn x1 x2 hxv r11 r12 r51 r52;obtain⟨Xn,Xl⟩:=X;simp only[RN.c,Sl.t] at hX hr1 hr5;rw[show (((1:Nat):Int))=1 from rfl] at hr1;rw[show (((5:Nat):Int))=5 from rfl] at hr5;simp only[List.cons_append,List.nil_append] at sa5
 (have F_:=c5 zF zG zN zE (c5 zD zC zK vX (c3 yGh zNv (c2 zE4 yC0)));show W CC 0 103 (zA 100) _ ⟨[(0,_)],[]⟩ _)
 refine zAi (zAi (zAi (zAi (yIL (yJm k n s (.sl Xl.nl Xl.cl (Xl.l.map intC)) Xn) ?_ ?_))))
 ·cases Xn
  all_goals (repeat' first|refine gA ?_|refine gT ?_ ?_<;>intro hv<;>try cases hv;done|fail)
  all_goals first
   |exact⟨rfl,rfl,rfl,rfl,_,Nat.zero_le _,rfl⟩
   |exact⟨rfl,rfl,rfl,rfl,_,Nat.le_refl _,rfl⟩
   |(refine zYO ?_;(refine aM ?_);exact⟨_,⟨rfl,rfl⟩,trivial⟩)
 rintro⟨T9,h9⟩ ⟨hh,y1,y3,yN,sg,hsl,y4⟩;dsimp only at hh y1 y3 yN y4;subst hh;have sn1:=sg1.h sg hsl;have hsg:Hid _:=⟨hsl⟩
 clear hmay hX hsl
 (repeat' first|refine gA ?_|refine gT ?_ ?_<;>intro hv<;>try cases hv;done|fail)
 all_goals first
  |((refine aM ?_ (h0:=by(show yG 103 _=some [];simp only[yG,Ab.get,Nat.beq,yN])));exact⟨_,⟨rfl,rfl⟩,trivial⟩)
  |skip
 ·clear hr1 hr5 sa5 sn1;refine zW (α:=Nat) (fun e=>⟨[(4,.t (.str sg)),(5,.t (.str r5)),(6,.t (.int .i64 e))],[]⟩) (fun e=>e) (fun e=>r5.length≤e+3∧e≤r5.length) r5.length (by(have X_:=c3 @y1 @y3 (c2 @y4 @yN);exact aTdX)) ⟨by omega,Nat.le_refl _⟩ ?_;clear y1 y3 y4 yN;rintro e ⟨g1,g2⟩
  try dsimp only at g1 g2
  have hq:=hr5l.h;have hsl:=hsg.h;have hxe:=ld5.h (e - 1) (r5[e - 1]'(by omega)) (List.getElem?_eq_getElem (by omega));generalize r5[e - 1]'(by omega)=c at hxe;have w1:IntKind.i64.wrap ((r5.length:Int) - 3)=((r5.length - 3:Nat):Int):=by rw[wrap64]<;>omega
  have w2:IntKind.i64.wrap ((e:Int) - 1)=((e - 1:Nat):Int):=by rw[wrap64]<;>omega
  have w3:IntKind.i64.wrap ((r5.length:Int) - 4)=((r5.length - 4:Nat):Int):=by rw[wrap64]<;>omega
  have sl1:∀g,slice Tryz.prog g 9 (.t (.str r5)) none (some ((r5.length - 4:Nat):Int)) none=some (.t (.str (r5.take (r5.length - 4)))):=fun g=>zU1 (by omega)
  have sl2:∀g,slice Tryz.prog g 9 (.t (.str r5)) (some ((r5.length - 4:Nat):Int)) (some (e:Int)) none=some (.t (.str ((r5.take e).drop (r5.length - 4)))):=fun g=>vH (by omega) (by omega)
  have l1:(r5.take (r5.length - 4)).length≤20:=by rw[List.length_take];omega
  have l2:((r5.take e).drop (r5.length - 4)).length≤20:=by rw[List.length_drop,List.length_take];omega
  generalize r5.take (r5.length - 4)=p1 at sl1 l1;generalize (r5.take e).drop (r5.length - 4)=p2 at sl2 l2;have sb1:binop Tryz.prog .add 9 (.t (.str sg)) (.t (.str p1))=some (.t (.str (sg++p1))):=yO (by omega);have sb2:binop Tryz.prog .add 9 (.t (.str (sg++p1))) (.t (.str [46]))=some (.t (.str ((sg++p1)++[46]))):=yO (by simp only[List.length_append,List.length_nil,List.length_singleton];omega);have sb3:binop Tryz.prog .add 9 (.t (.str ((sg++p1)++[46]))) (.t (.str p2))=some (.t (.str (((sg++p1)++[46])++p2))):=yO (by simp only[List.length_append,List.length_nil,List.length_singleton];omega);have hee:decide ((e:Int) > ((r5.length - 3:Nat):Int))=true∨decide ((e:Int) > ((r5.length - 3:Nat):Int))=false:=by cases decide ((e:Int) > ((r5.length - 3:Nat):Int))<;>simp
  have hb:Hid _:=⟨And.intro g1 (And.intro g2 hq)⟩
  have hge:Hid (decide ((e:Int) > ((r5.length - 3:Nat):Int))=true→r5.length - 3<e):=⟨fun h=>by have:=of_decide_eq_true h;omega⟩
  clear g1 g2 hq l1 l2 hsl;rcases hee with de|de
  ·have hlt:Hid _:=⟨hge.h de⟩
   clear hge
   (repeat' first|refine gA ?_|refine gT ?_ ?_<;>intro hv<;>try cases hv;done|fail)
   all_goals first
    |exact zB (e - 1) (by have:=hb.h;have:=hlt.h;omega) ⟨by have:=hb.h;have:=hlt.h;omega,by have:=hb.h;omega⟩ (by exact aTd)
    |((refine aM ?_);exact⟨_,⟨rfl,rfl⟩,trivial⟩)
  clear hge
  (repeat' first|refine gA ?_|refine gT ?_ ?_<;>intro hv<;>try cases hv;done|fail)
  all_goals refine aM ?_<;>exact⟨_,⟨rfl,rfl⟩,trivial⟩
 clear hr1 hr5 sa5 sn1;refine zW (α:=List Nat×Nat) (fun a=>⟨[(1,.box 0 0),(7,.t (.str a.1)),(8,.t (.int .i64 a.2))],[.box [.t (.int .u8 k),.t (.int .i64 n),.t (.str s)]]⟩) (fun a=>s.length - a.2) (fun a=>a.2≤s.length∧a.1.length≤2 * a.2+1) ([34],0) (by(have X_:=c3 @y1 @y3 (c2 @y4 @yN);exact aTdX)) ⟨Nat.zero_le _,Nat.le_refl _⟩ ?_;clear y1 y3 y4 yN;rintro⟨o,i⟩ ⟨g1,g2⟩
 try dsimp only at g1 g2
 have hs:=hs2.h
 by_cases hi':i<s.length
 ·have hd:decide ((i:Int)<(s.length:Int))=true:=by simpa using hi'
  have hx:=ld.h i s[i] (List.getElem?_eq_getElem hi');have hw:=wI64 i (by omega);have hsl:∀g,slice Tryz.prog g 9 (.t (.str s)) (some (i:Int)) (some ((i+1:Nat):Int)) none=some (.t (.str ((s.take (i+1)).drop i))):=fun g=>vH (by omega) (by omega)
  have l1:((s.take (i+1)).drop i).length=1:=by simp;omega
  generalize (s.take (i+1)).drop i=p1 at hsl l1;generalize s[i]=c at hx;have sb1:binop Tryz.prog .add 9 (.t (.str o)) (.t (.str [92]))=some (.t (.str (o++[92]))):=yO (by simp only[List.length_singleton];omega);have sb2:binop Tryz.prog .add 9 (.t (.str (o++[92]))) (.t (.str p1))=some (.t (.str ((o++[92])++p1))):=yO (by simp only[List.length_append,List.length_singleton];omega);have sb3:binop Tryz.prog .add 9 (.t (.str o)) (.t (.str p1))=some (.t (.str (o++p1))):=yO (by omega);have hl1:Hid ((o++p1).length≤2 * (i+1)+1):=⟨by simp only[List.length_append];omega⟩
  have hl2:Hid (((o++[92])++p1).length≤2 * (i+1)+1):=⟨by simp only[List.length_append,List.length_singleton];omega⟩
  have hi2:Hid _:=⟨hi'⟩
  clear g1 g2 hs hi' l1
  (repeat' first|refine gA ?_|refine gT ?_ ?_<;>intro hv<;>try cases hv;done|fail)
  all_goals first
   |exact zB (o++p1,i+1) (by have:=hi2.h;dsimp only;omega) ⟨hi2.h,hl1.h⟩ (by exact aTd)
   |exact zB ((o++[92])++p1,i+1) (by have:=hi2.h;dsimp only;omega) ⟨hi2.h,hl2.h⟩ (by exact aTd)
 have hd:decide ((i:Int)<(s.length:Int))=false:=by simpa using hi'
 have sb1:binop Tryz.prog .add 9 (.t (.str o)) (.t (.str [34]))=some (.t (.str (o++[34]))):=yO (by simp only[List.length_singleton];omega);clear g1 g2 hs hi'
 (repeat' first|refine gA ?_|refine gT ?_ ?_<;>intro hv<;>try cases hv;done|fail)
 all_goals refine aM ?_<;>exact⟨_,⟨rfl,rfl⟩,trivial⟩
def zVh{g:Look}{s:List Nat}{k:Nat}(h:k≤s.length):slice Tryz.prog g 9 (.t (.str s)) (some (k:Int)) none none=some (.t (.str (s.drop k))):=by
 have:=vH (g:=g) (s:=s) (lo:=k) (hi:=s.length) h (Nat.le_refl _);rw[List.take_length] at this;unfold slice at this ⊢;simp only[Option.getD_none,Option.getD_some] at this ⊢;exact this
def xa9:=c5 zF zG zN zE (c5 zD zC zQ zK (c5 vX zQ2 zNv zOC (c3 zQ3 zRk (c2 zQH zRl))))
def zLl(s:List Nat)(hs:s.length<1000000):∃r:Val×Int,Om CC 57 [.t (.str s)] []=some (.val (.tup [.t (.agg [.int .u8 r.1.k,.int .i64 r.1.n,.str r.1.s]),.t (.int .i64 r.2)]),[])∧True:=by
 refine zH yBS rfl ?_
 by_cases hl:s.length≤402
 ·have hd:decide ((s.length:Int) > 402)=false:=decide_eq_false (by omega);obtain⟨X,hX,hXk⟩:=zO8 s hl;obtain⟨⟨n,e⟩,hI,hIR⟩:=zVo X.1 3000 hXk (by decide);obtain⟨⟨tk,tn,ts⟩,ht,t1,t2⟩:=zKh true;obtain⟨⟨fk,fn,fs⟩,hf,f1,f2⟩:=zKh false;dsimp only at hI hIR t1 t2 f1 f2;subst t2;subst f2;obtain⟨mt,hmt,-⟩:=zAN tk tn [] (by simp);obtain⟨wt,hwt,-⟩:=zBE tk tn [] t1 (by simp);obtain⟨mf,hmf,-⟩:=zAN fk fn [] (by simp);obtain⟨wf,hwf,-⟩:=zBE fk fn [] f1 (by simp);obtain⟨m0,hm0,-⟩:=zAN 0 0 [] (by simp);obtain⟨w0,hw0,-⟩:=zBE 0 0 [] zIO (by simp);obtain⟨m1,hm1,-⟩:=zAN 1 n [] (by simp);obtain⟨w1,hw1,-⟩:=zBE 1 n [] hIR (by simp);obtain⟨m2,hm2,-⟩:=zAN 2 n [] (by simp);obtain⟨w2,hw2,-⟩:=zBE 2 n [] hIR (by simp);obtain⟨S,hS,hSl⟩:=zQD s hs;obtain⟨m3,hm3,-⟩:=zAN 3 0 S (by omega);obtain⟨w3,hw3,-⟩:=zBE 3 0 S zIO (by omega);obtain⟨m5,hm5,-⟩:=zAN 5 0 (s.drop 1) (by rw[List.length_drop];omega);obtain⟨w5,hw5,-⟩:=zBE 5 0 (s.drop 1) zIO (by rw[List.length_drop];omega);obtain⟨⟨xn,xl⟩,x2,x3⟩:=X;simp only[RN.c,Sl.t] at hX hI;clear hXk hIR t1 f1 hSl hs hl
  by_cases hz:0<s.length
  ·have hd0:decide ((s.length:Int) > 0)=true:=decide_eq_true (by omega);have hx0:=xL (List.getElem?_eq_getElem hz);have hsl:∀g,slice Tryz.prog g 9 (.t (.str s)) (some (1:Int)) none none=some (.t (.str (s.drop 1))):=fun g=>zVh (g:=g) (k:=1) hz
   rw[show (((0:Nat):Int))=0 from rfl] at hx0;generalize s[0]=c0 at hx0;generalize s.drop 1=s1 at *;clear hz
   (have F_:=xa9;show W CC 0 85 (zA 57) _ ⟨[(0,_)],[]⟩ _)
   (repeat' first|refine gA ?_|refine gT ?_ ?_<;>intro hv<;>try cases hv;done|fail)
   all_goals refine aM ?_<;>exact⟨(⟨_,_,_⟩,_),⟨rfl,rfl⟩,trivial⟩
  have hd0:decide ((s.length:Int) > 0)=false:=decide_eq_false (by omega);generalize s.drop 1=s1 at *;clear hz
  (have F_:=xa9;show W CC 0 85 (zA 57) _ ⟨[(0,_)],[]⟩ _)
  (repeat' first|refine gA ?_|refine gT ?_ ?_<;>intro hv<;>try cases hv;done|fail)
  all_goals refine aM ?_<;>exact⟨(⟨_,_,_⟩,_),⟨rfl,rfl⟩,trivial⟩
 have hd:decide ((s.length:Int) > 402)=true:=decide_eq_true (by omega);clear hs hl
 (have F_:=xa9;show W CC 0 85 (zA 57) _ ⟨[(0,_)],[]⟩ _)
 (repeat' first|refine gA ?_|refine gT ?_ ?_<;>intro hv<;>try cases hv;done|fail)
 all_goals refine aM ?_<;>exact⟨(⟨_,_,_⟩,_),⟨rfl,rfl⟩,trivial⟩
end Go.Ab
