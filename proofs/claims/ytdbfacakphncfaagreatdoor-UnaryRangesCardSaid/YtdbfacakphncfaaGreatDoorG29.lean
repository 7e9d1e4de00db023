/- Lemmas. -/
import Derived.Test.YtdbfacakphncfaaGreatDoorG28
set_option maxRecDepth 1000000
set_option maxHeartbeats 40000000
set_option linter.all false
namespace Go.Ab
open Go.Proofs
attribute [local irreducible] W RW RR
def zRR:Om CC 57 [.t (.str [])] []=some (.val (.tup [.t (.agg [.int .u8 0,.int .i64 0,.str []]),.t (.int .i64 4)]),[]):=wK (n:=300) (by kernel_rfl)
def zTx(s:List Nat)(hs:s.length<1000000):∃r:Val×Int,Om CC 57 [.t (.str s)] []=some (.val (.tup [.t (.agg [.int .u8 r.1.k,.int .i64 r.1.n,.str r.1.s]),.t (.int .i64 r.2)]),[])∧(r.2=0→s≠[]):=by
 cases s with
 |nil=>exact⟨(⟨0,0,[]⟩,4),zRR,fun h=>by cases h⟩
 |cons c r=>obtain⟨x,hx,-⟩:=zLl (c::r) hs;exact⟨x,hx,fun _=>by simp⟩
def xbA:=c5 zF zG zE zD (c5 zC zL zQ zR (c5 zNf zHl zNt zNg (c3 zNl zNe (c2 zNj @zBv))))
def zUf(s:List Nat)(at_:Nat)(ha:at_<s.length)(hs:s.length<1000000):∃r:Tok×Int×Int,Om CC 32 [.t (.str s),.t (.int .i64 (at_:Int))] []=some (.val (.tup [.t (.agg r.1.c),.t (.int .i64 r.2.1),.t (.int .i64 r.2.2)]),[])∧(r.2.2=0→∃n:Nat,r.2.1=(n:Int)∧at_<n∧n≤s.length):=by
 refine zH yGM rfl ?_;have hx:=xL (List.getElem?_eq_getElem ha);generalize s[at_]=c at hx;obtain⟨n1,hn1,a1,b1⟩:=zO1 s at_ (by omega) (by omega);obtain⟨n2,hn2,a2,b2⟩:=zO1 s (at_+1) (by omega) (by omega);obtain⟨n3,hn3,a3,b3⟩:=zVf s at_ (by omega) (by omega);obtain⟨n4,hn4,c4⟩:=zV6 s at_ ha (by omega);obtain⟨n5,hn5,c5⟩:=zWA s at_ ha (by omega);have wa:=wI64 at_ (by omega);have s1:∀g,slice Tryz.prog g 9 (.t (.str s)) (some (at_:Int)) (some (n1:Int)) none=some (.t (.str ((s.take n1).drop at_))):=fun g=>vH a1 b1
 have s2:∀g,slice Tryz.prog g 9 (.t (.str s)) (some ((at_+1:Nat):Int)) (some (n2:Int)) none=some (.t (.str ((s.take n2).drop (at_+1)))):=fun g=>vH a2 b2
 have s3:∀g,slice Tryz.prog g 9 (.t (.str s)) (some (at_:Int)) (some (n3:Int)) none=some (.t (.str ((s.take n3).drop at_))):=fun g=>vH a3 b3
 have l3:((s.take n3).drop at_).length=n3 - at_:=by rw[List.length_drop,List.length_take];omega
 obtain⟨⟨⟨vk,vn,vs⟩,e3⟩,hp3,ne3⟩:=zTx ((s.take n3).drop at_) (by omega);have g3:Hid (e3=0→at_<n3):=⟨fun h=>by have:=ne3 h;have:((s.take n3).drop at_).length≠0:=fun h=>this (List.length_eq_zero_iff.1 h);omega⟩
 have g3l:Hid _:=⟨b3⟩
 have g1l:Hid _:=⟨b1⟩
 have g2l:Hid _:=⟨And.intro a2 b2⟩
 have hg1:Hid (decide ((n1:Int) > (at_:Int))=true→at_<n1):=⟨fun h=>by have:=of_decide_eq_true h;omega⟩
 have s4:∃W,n4=-1∨∀g,slice Tryz.prog g 9 (.t (.str s)) (some (at_:Int)) (some n4) none=some (.t (.str W))∧W.length<1000000:=by
  rcases c4 with h|⟨h1,h2⟩
  ·exact⟨[],.inl h⟩
  obtain⟨k,rfl⟩:=Int.eq_ofNat_of_zero_le (show 0≤n4 by omega);exact⟨(s.take k).drop at_,.inr fun g=>⟨vH (by omega) (by omega),by rw[List.length_drop,List.length_take];omega⟩⟩
 obtain⟨W4,hW4⟩:=s4;have s4':∃W,n4=-1∨∀g,slice Tryz.prog g 9 (.t (.str s)) (some ((at_+1:Nat):Int)) (some (IntKind.i64.wrap (n4 - 1))) none=some (.t (.str W)):=by
  rcases c4 with h|⟨h1,h2⟩
  ·exact⟨[],.inl h⟩
  obtain⟨k,rfl⟩:=Int.eq_ofNat_of_zero_le (show 0≤n4 by omega);rw[show IntKind.i64.wrap ((k:Int) - 1)=((k - 1:Nat):Int) by rw[wrap64]<;>omega];exact⟨(s.take (k - 1)).drop (at_+1),.inr fun g=>vH (by omega) (by omega)⟩
 obtain⟨W4',hW4'⟩:=s4';have s5:∃W,n5=-1∨∀g,slice Tryz.prog g 9 (.t (.str s)) (some (at_:Int)) (some n5) none=some (.t (.str W)):=by
  rcases c5 with h|⟨h1,h2⟩
  ·exact⟨[],.inl h⟩
  obtain⟨k,rfl⟩:=Int.eq_ofNat_of_zero_le (show 0≤n5 by omega);exact⟨(s.take k).drop at_,.inr fun g=>vH (by omega) (by omega)⟩
 obtain⟨W5,hW5⟩:=s5;have q5:Hid (n5=-1∨∃n:Nat,n5=(n:Int)∧at_<n∧n≤s.length):=⟨c5.imp id fun⟨h1,h2⟩=>⟨n5.toNat,by omega,by omega,by omega⟩⟩
 have q4:Hid (n4=-1∨∃n:Nat,n4=(n:Int)∧at_<n∧n≤s.length):=⟨c4.imp id fun⟨h1,h2⟩=>⟨n4.toNat,by omega,by omega,by omega⟩⟩
 generalize (s.take n3).drop at_=W3 at *;generalize (s.take n2).drop (at_+1)=W2 at *;generalize (s.take n1).drop at_=W1 at *;clear a1 b1 a2 b2 a3 b3 l3 ne3 hs ha c4 c5;have hh:∃(v:Val) (e4:Int),n4=-1∨Om CC 57 [.t (.str W4)] []=some (.val (.tup [.t (.agg [.int .u8 v.k,.int .i64 v.n,.str v.s]),.t (.int .i64 e4)]),[]):=by
  rcases hW4 with h|h
  ·exact⟨⟨0,0,[]⟩,0,.inl h⟩
  obtain⟨x,hx,-⟩:=zLl W4 (h (fun _=>none)).2;exact⟨x.1,x.2,.inr hx⟩
 obtain⟨⟨uk,un,us⟩,e4,hp4⟩:=hh;have n4c:n4=-1∨(decide (n4<0)=false∧Hid (∃n:Nat,n4=(n:Int)∧at_<n∧n≤s.length)):=q4.h.imp id fun h=>⟨decide_eq_false (by obtain⟨n,h,_⟩:=h;omega),⟨h⟩⟩
 have n5c:n5=-1∨(decide (n5<0)=false∧Hid (∃n:Nat,n5=(n:Int)∧at_<n∧n≤s.length)):=q5.h.imp id fun h=>⟨decide_eq_false (by obtain⟨n,h,_⟩:=h;omega),⟨h⟩⟩
 clear q4 q5;rcases n4c with rfl|⟨hd4,q4n⟩
 ·have hd4:decide ((-1:Int)<0)=true:=rfl;clear hW4 hW4' hp4;rcases n5c with rfl|⟨hd5,q5n⟩
  ·have hd5:decide ((-1:Int)<0)=true:=rfl;clear hW5
   (have F_:=xbA;show W CC 0 147 (zA 32) _ ⟨[(0,_),(1,_)],[]⟩ _)
   (repeat' first|refine gA ?_|refine gT ?_ ?_<;>intro hv<;>try cases hv;done|fail)
   all_goals refine aM ?_
   all_goals first
    |exact⟨(⟨_,_,⟨_,_,_⟩,_,_⟩,_,_),⟨rfl,rfl⟩,fun h=>absurd h (by decide)⟩
    |exact⟨(⟨_,_,⟨_,_,_⟩,_,_⟩,_,_),⟨rfl,rfl⟩,fun _=>⟨n1,rfl,hg1.h (by assumption),g1l.h⟩⟩
    |exact⟨(⟨_,_,⟨_,_,_⟩,_,_⟩,_,_),⟨rfl,rfl⟩,fun _=>⟨n2,rfl,g2l.h.1,g2l.h.2⟩⟩
    |exact⟨(⟨_,_,⟨_,_,_⟩,_,_⟩,_,_),⟨rfl,rfl⟩,fun _=>⟨n3,rfl,g3.h (by clear F_;simp_all;done),g3l.h⟩⟩
    |exact⟨(⟨_,_,⟨_,_,_⟩,_,_⟩,_,_),⟨rfl,rfl⟩,fun h=>absurd h (by clear F_;simp_all;done)⟩
  have hs5:=hW5.resolve_left (by rintro rfl;cases hd5);clear hW5
  (have F_:=xbA;show W CC 0 147 (zA 32) _ ⟨[(0,_),(1,_)],[]⟩ _)
  (repeat' first|refine gA ?_|refine gT ?_ ?_<;>intro hv<;>try cases hv;done|fail)
  all_goals refine aM ?_
  all_goals first
   |exact⟨(⟨_,_,⟨_,_,_⟩,_,_⟩,_,_),⟨rfl,rfl⟩,fun h=>absurd h (by decide)⟩
   |exact⟨(⟨_,_,⟨_,_,_⟩,_,_⟩,_,_),⟨rfl,rfl⟩,fun _=>⟨n1,rfl,hg1.h (by assumption),g1l.h⟩⟩
   |exact⟨(⟨_,_,⟨_,_,_⟩,_,_⟩,_,_),⟨rfl,rfl⟩,fun _=>⟨n2,rfl,g2l.h.1,g2l.h.2⟩⟩
   |exact⟨(⟨_,_,⟨_,_,_⟩,_,_⟩,n5,_),⟨rfl,rfl⟩,fun _=>q5n.h⟩
   |exact⟨(⟨_,_,⟨_,_,_⟩,_,_⟩,_,_),⟨rfl,rfl⟩,fun _=>⟨n3,rfl,g3.h (by clear F_;simp_all;done),g3l.h⟩⟩
   |exact⟨(⟨_,_,⟨_,_,_⟩,_,_⟩,_,_),⟨rfl,rfl⟩,fun h=>absurd h (by clear F_;simp_all;done)⟩
 have ne4:¬ n4=-1:=by rintro rfl;cases hd4
 have hs4:=fun g=>(hW4.resolve_left ne4 g).1
 have hs4':=hW4'.resolve_left ne4;have hr4:=hp4.resolve_left ne4;clear hW4 hW4' hp4 ne4;rcases n5c with rfl|⟨hd5,q5n⟩
 ·have hd5:decide ((-1:Int)<0)=true:=rfl;clear hW5
  (have F_:=xbA;show W CC 0 147 (zA 32) _ ⟨[(0,_),(1,_)],[]⟩ _)
  (repeat' first|refine gA ?_|refine gT ?_ ?_<;>intro hv<;>try cases hv;done|fail)
  all_goals refine aM ?_
  all_goals first
   |exact⟨(⟨_,_,⟨_,_,_⟩,_,_⟩,_,_),⟨rfl,rfl⟩,fun h=>absurd h (by decide)⟩
   |exact⟨(⟨_,_,⟨_,_,_⟩,_,_⟩,_,_),⟨rfl,rfl⟩,fun _=>⟨n1,rfl,hg1.h (by assumption),g1l.h⟩⟩
   |exact⟨(⟨_,_,⟨_,_,_⟩,_,_⟩,_,_),⟨rfl,rfl⟩,fun _=>⟨n2,rfl,g2l.h.1,g2l.h.2⟩⟩
   |exact⟨(⟨_,_,⟨_,_,_⟩,_,_⟩,n4,_),⟨rfl,rfl⟩,fun _=>q4n.h⟩
   |exact⟨(⟨_,_,⟨_,_,_⟩,_,_⟩,_,_),⟨rfl,rfl⟩,fun _=>⟨n3,rfl,g3.h (by clear F_;simp_all;done),g3l.h⟩⟩
   |exact⟨(⟨_,_,⟨_,_,_⟩,_,_⟩,_,_),⟨rfl,rfl⟩,fun h=>absurd h (by clear F_;simp_all;done)⟩
 have hs5:=hW5.resolve_left (by rintro rfl;cases hd5);clear hW5
 (have F_:=xbA;show W CC 0 147 (zA 32) _ ⟨[(0,_),(1,_)],[]⟩ _)
 (repeat' first|refine gA ?_|refine gT ?_ ?_<;>intro hv<;>try cases hv;done|fail)
 all_goals refine aM ?_
 all_goals first
  |exact⟨(⟨_,_,⟨_,_,_⟩,_,_⟩,_,_),⟨rfl,rfl⟩,fun h=>absurd h (by decide)⟩
  |exact⟨(⟨_,_,⟨_,_,_⟩,_,_⟩,_,_),⟨rfl,rfl⟩,fun _=>⟨n1,rfl,hg1.h (by assumption),g1l.h⟩⟩
  |exact⟨(⟨_,_,⟨_,_,_⟩,_,_⟩,_,_),⟨rfl,rfl⟩,fun _=>⟨n2,rfl,g2l.h.1,g2l.h.2⟩⟩
  |exact⟨(⟨_,_,⟨_,_,_⟩,_,_⟩,n5,_),⟨rfl,rfl⟩,fun _=>q5n.h⟩
  |exact⟨(⟨_,_,⟨_,_,_⟩,_,_⟩,n4,_),⟨rfl,rfl⟩,fun _=>q4n.h⟩
  |exact⟨(⟨_,_,⟨_,_,_⟩,_,_⟩,_,_),⟨rfl,rfl⟩,fun _=>⟨n3,rfl,g3.h (by clear F_;simp_all;done),g3l.h⟩⟩
  |exact⟨(⟨_,_,⟨_,_,_⟩,_,_⟩,_,_),⟨rfl,rfl⟩,fun h=>absurd h (by clear F_;simp_all;done)⟩
def slO:Option (List (List Tree))→Tree
 |none=>.sl true true []
 |some E=>.sl false false E
def zOL:Option (List (List Tree))→List (List Tree)
 |none=>[]
 |some E=>E
def lxO:Option (List (List Tree))→AV
 |none=>.t (.sl true true [])
 |some _=>.hs 1 0
def lxB:Option (List (List Tree))→AV
 |none=>.box 1 0
 |some _=>.box 2 0
def lxH:Option (List (List Tree))→Heap
 |none=>[.box [.t (.int .i64 0),.t (.int .i64 0)],.box [.t (.int .i64 0),.t (.int .i64 0)]]
 |some F=>[.box [.t (.int .i64 0),.t (.int .i64 0)],.arr 7 0 false F,.box [.t (.int .i64 0),.t (.int .i64 0)]]
structure RLx where
 E:Option (List (List Tree))
 line:Int
 beg:Int
 at_:Nat
def xbB:=c5 zF zG zE zD (c5 zC zL zQ zU (c3 zR zWF zWY))
def zVA(s:List Nat)(hs:s.length<1000000):∃x:List Tok×(Int×Int)×Int,Om CC 17 [.t (.str s)] []=some (.val (zHS x.1 x.2.1.1 x.2.1.2 x.2.2),[])∧(x.1.length≤s.length):=by
 have key:∃x:Option (List (List Tree))×(Int×Int)×Int,Om CC 17 [.t (.str s)] []=some (.val (.tup [.t (slO x.1),.t (.agg [.int .i64 x.2.1.1,.int .i64 x.2.1.2]),.t (.int .i64 x.2.2)]),[])∧(∃L:List Tok,slO x.1=.sl L.isEmpty L.isEmpty (L.map Tok.c)∧L.length≤s.length):=by
  refine zH yDz rfl ?_;have h0:Hid (∃L:List Tok,Tree.sl true true []=.sl L.isEmpty L.isEmpty (L.map Tok.c)∧L.length≤s.length):=⟨[],rfl,by simp⟩
  by_cases hl:s.length≤65536
  ·have hd:decide ((s.length:Int) > 65536)=false:=by simp;omega
   have hs2:Hid _:=⟨hs⟩
   clear hl hs
   (have F_:=xbB;show W CC 0 77 (zA 17) _ ⟨[(0,_)],[]⟩ _)
   (repeat' first|refine gA ?_|refine gT ?_ ?_<;>intro hv<;>try cases hv;done|fail)
   clear hd;refine zW (α:=RLx) (fun x=>⟨[(0,.t (.str s)),(3,.box 0 0),(5,lxO x.E),(6,lxB x.E),(7,.t (.int .i64 x.line)),(8,.t (.int .i64 x.beg)),(9,.t (.int .i64 x.at_))],lxH x.E⟩) (fun x=>s.length - x.at_)
    (fun x=>x.at_≤s.length∧∃L:List Tok,zOL x.E=L.map Tok.c∧(x.E=none↔L=[])∧L.length≤x.at_) ⟨none,1,0,0⟩ (by simp only[lxO,lxB,lxH,Tok.c];exact aTd) ⟨Nat.zero_le _,[],rfl,by simp,Nat.le_refl _⟩ ?_
   rintro⟨E,line,beg,i⟩ ⟨hi,L,hE,hEL,hLi⟩;dsimp only at hi hE hEL hLi;have hs3:=hs2.h
   by_cases hi':i<s.length
   ·have hd:decide ((i:Int)<(s.length:Int))=true:=decide_eq_true (by omega);obtain⟨⟨⟨k,ts,⟨vk,vn,vs⟩,tl,tc⟩,n,e⟩,hw,hn⟩:=zUf s i hi' hs2.h;have hx:=xL (List.getElem?_eq_getElem hi');generalize s[i]=c at hx;have wi:=wI64 i (by omega);have hn2:Hid _:=⟨hn⟩
    have hb:Hid _:=⟨And.intro hi' hLi⟩
    have hK:Hid _:=⟨And.intro hE hEL⟩
    simp only[Tok.c] at hw
    by_cases hc:c=59
    ·subst hc;rw[show (((59:Nat):Int))=59 from rfl] at hx;have k1:((59:Int)==32)=false:=rfl;have k2:((59:Int)==10)=false:=rfl;have k3:((59:Int)==59)=true:=rfl;have k4:((59:Int) != 10)=true:=rfl;clear hw hn hE hEL hLi hi hs3 hi';rcases E with _|F
     ·simp only[lxO,lxB,lxH]
      (repeat' first|refine gA ?_|refine gT ?_ ?_<;>intro hv<;>try cases hv;done|fail)
      (refine aK ?_)
      (repeat' first|refine gA ?_|refine gT ?_ ?_<;>intro hv<;>try cases hv;done|fail)
      clear hx hd;refine zW (α:=Nat) (fun j=>⟨[(0,.t (.str s)),(3,.box 0 0),(5,.t (.sl true true [])),(6,.box 1 0),(7,.t (.int .i64 line)),(8,.t (.int .i64 beg)),(9,.t (.int .i64 (j:Nat)))],[.box [.t (.int .i64 0),.t (.int .i64 0)],.box [.t (.int .i64 0),.t (.int .i64 0)]]⟩) (fun j=>s.length - j) (fun j=>i<j∧j≤s.length) (i+1) (by exact aTd) ⟨by omega,hb.h.1⟩ ?_;clear wi;rintro j ⟨hj0,hj⟩;have hj2:Hid _:=⟨And.intro hj0 hj⟩
      by_cases hj':j<s.length
      ·have hd:decide ((j:Int)<(s.length:Int))=true:=decide_eq_true (by omega);have hx:=xL (List.getElem?_eq_getElem hj');generalize s[j]=c at hx;have wj:=wI64 j (by have:=hs2.h;omega);have hj3:Hid _:=⟨hj'⟩
       clear hj0 hj hj'
       (repeat' first|refine gA ?_|refine gT ?_ ?_<;>intro hv<;>try cases hv;done|fail)
       ·exact zB (j+1) (by have:=hj3.h;omega) ⟨by have:=hj2.h;omega,by have:=hj3.h;omega⟩ (by exact aTd)
       exact zB (⟨none,line,beg,j⟩:RLx) (by have:=hj2.h;have:=hb.h;dsimp only;omega) ⟨hj2.h.2,L,hK.h.1,hK.h.2,by have:=hj2.h;have:=hb.h;dsimp only;omega⟩ (by simp only[lxO,lxB,lxH,Tok.c];exact aTd)
      have hd:decide ((j:Int)<(s.length:Int))=false:=decide_eq_false (by omega);clear hj0 hj hj'
      (repeat' first|refine gA ?_|refine gT ?_ ?_<;>intro hv<;>try cases hv;done|fail)
      exact zB (⟨none,line,beg,j⟩:RLx) (by have:=hj2.h;have:=hb.h;dsimp only;omega) ⟨hj2.h.2,L,hK.h.1,hK.h.2,by have:=hj2.h;have:=hb.h;dsimp only;omega⟩ (by simp only[lxO,lxB,lxH,Tok.c];exact aTd)
     simp only[lxO,lxB,lxH]
     (repeat' first|refine gA ?_|refine gT ?_ ?_<;>intro hv<;>try cases hv;done|fail)
     (refine aK ?_)
     (repeat' first|refine gA ?_|refine gT ?_ ?_<;>intro hv<;>try cases hv;done|fail)
     clear hx hd;refine zW (α:=Nat) (fun j=>⟨[(0,.t (.str s)),(3,.box 0 0),(5,.hs 1 0),(6,.box 2 0),(7,.t (.int .i64 line)),(8,.t (.int .i64 beg)),(9,.t (.int .i64 (j:Nat)))],[.box [.t (.int .i64 0),.t (.int .i64 0)],.arr 7 0 false F,.box [.t (.int .i64 0),.t (.int .i64 0)]]⟩) (fun j=>s.length - j) (fun j=>i<j∧j≤s.length) (i+1) (by exact aTd) ⟨by omega,hb.h.1⟩ ?_;clear wi;rintro j ⟨hj0,hj⟩;have hj2:Hid _:=⟨And.intro hj0 hj⟩
     by_cases hj':j<s.length
     ·have hd:decide ((j:Int)<(s.length:Int))=true:=decide_eq_true (by omega);have hx:=xL (List.getElem?_eq_getElem hj');generalize s[j]=c at hx;have wj:=wI64 j (by have:=hs2.h;omega);have hj3:Hid _:=⟨hj'⟩
      clear hj0 hj hj'
      (repeat' first|refine gA ?_|refine gT ?_ ?_<;>intro hv<;>try cases hv;done|fail)
      ·exact zB (j+1) (by have:=hj3.h;omega) ⟨by have:=hj2.h;omega,by have:=hj3.h;omega⟩ (by exact aTd)
      exact zB (⟨some F,line,beg,j⟩:RLx) (by have:=hj2.h;have:=hb.h;dsimp only;omega) ⟨hj2.h.2,L,hK.h.1,hK.h.2,by have:=hj2.h;have:=hb.h;dsimp only;omega⟩ (by simp only[lxO,lxB,lxH,Tok.c];exact aTd)
     have hd:decide ((j:Int)<(s.length:Int))=false:=decide_eq_false (by omega);clear hj0 hj hj'
     (repeat' first|refine gA ?_|refine gT ?_ ?_<;>intro hv<;>try cases hv;done|fail)
     exact zB (⟨some F,line,beg,j⟩:RLx) (by have:=hj2.h;have:=hb.h;dsimp only;omega) ⟨hj2.h.2,L,hK.h.1,hK.h.2,by have:=hj2.h;have:=hb.h;dsimp only;omega⟩ (by simp only[lxO,lxB,lxH,Tok.c];exact aTd)
    have k3:((c:Int)==59)=false:=by simp;omega
    have k59:Hid _:=⟨hc⟩
    clear hc;have hne:Hid (e=0∨(e != 0)=true):=⟨by by_cases h:e=0<;>simp [h]⟩
    have hln:∀F,E=some F→lens 7 F=true∧decide (F.length+1<4294967296)=true:=by
     intro F hF;subst hF;simp only[zOL] at hE;subst hE;refine⟨?_,by rw[decide_eq_true_eq,List.length_map];omega⟩;unfold lens;rw[List.all_map];exact List.all_eq_true.2 fun x _=>rfl
    clear hE hEL hLi hi hs3 hi' hn;rcases hne.h with rfl|he
    ·obtain⟨n,rfl,hn1,hn3⟩:=hn2.h rfl;have hnn:Hid _:=⟨And.intro hn1 hn3⟩
     have k0:((0:Int) != 0)=false:=rfl;clear hn1 hn3;rcases E with _|F
     ·clear hln;simp only[lxO,lxB,lxH]
      (repeat' first|refine gA ?_|refine gT ?_ ?_<;>intro hv<;>try cases hv;done|fail)
      all_goals first
       |exact zB (⟨none,line,beg,i+1⟩:RLx) (by have:=hb.h;dsimp only;omega) ⟨hb.h.1,L,hK.h.1,hK.h.2,by have:=hb.h;dsimp only;omega⟩ (by simp only[lxO,lxB,lxH,Tok.c];exact aTd)
       |exact zB (⟨none,_,_,i+1⟩:RLx) (by have:=hb.h;dsimp only;omega) ⟨hb.h.1,L,hK.h.1,hK.h.2,by have:=hb.h;dsimp only;omega⟩ (by simp only[lxO,lxB,lxH,Tok.c];exact aTd)
       |exact zB (⟨some [Tok.c ⟨k,ts,⟨vk,vn,vs⟩,line,IntKind.i64.wrap (IntKind.i64.wrap ((i:Int) - beg)+1)⟩],line,beg,n⟩:RLx) (by have:=hb.h;have:=hnn.h;dsimp only;omega) ⟨hnn.h.2,L++[⟨k,ts,⟨vk,vn,vs⟩,line,IntKind.i64.wrap (IntKind.i64.wrap ((i:Int) - beg)+1)⟩],by have:=hK.h.2.1 rfl;subst this;rfl,by simp,by have:=hb.h;have:=hnn.h;simp only[List.length_append,List.length_cons,List.length_nil];omega⟩ (by simp only[lxO,lxB,lxH,Tok.c];exact aTd)
     obtain⟨q1,q2⟩:=hln F rfl;clear hln;simp only[lxO,lxB,lxH]
     (repeat' first|refine gA ?_|refine gT ?_ ?_<;>intro hv<;>try cases hv;done|fail)
     all_goals first
      |exact zB (⟨some F,line,beg,i+1⟩:RLx) (by have:=hb.h;dsimp only;omega) ⟨hb.h.1,L,hK.h.1,hK.h.2,by have:=hb.h;dsimp only;omega⟩ (by simp only[lxO,lxB,lxH,Tok.c];exact aTd)
      |exact zB (⟨some F,_,_,i+1⟩:RLx) (by have:=hb.h;dsimp only;omega) ⟨hb.h.1,L,hK.h.1,hK.h.2,by have:=hb.h;dsimp only;omega⟩ (by simp only[lxO,lxB,lxH,Tok.c];exact aTd)
      |exact zB (⟨some (F++[Tok.c ⟨k,ts,⟨vk,vn,vs⟩,line,IntKind.i64.wrap (IntKind.i64.wrap ((i:Int) - beg)+1)⟩]),line,beg,n⟩:RLx) (by have:=hb.h;have:=hnn.h;dsimp only;omega) ⟨hnn.h.2,L++[⟨k,ts,⟨vk,vn,vs⟩,line,IntKind.i64.wrap (IntKind.i64.wrap ((i:Int) - beg)+1)⟩],by have:=hK.h.1;simp only[zOL] at this ⊢;rw[this,List.map_append];rfl,by simp,by have:=hb.h;have:=hnn.h;simp only[List.length_append,List.length_cons,List.length_nil];omega⟩ (by simp only[lxO,lxB,lxH,Tok.c];exact aTd)
    clear hn2 hne hln;rcases E with _|F
    ·simp only[lxO,lxB,lxH]
     (repeat' first|refine gA ?_|refine gT ?_ ?_<;>intro hv<;>try cases hv;done|fail)
     all_goals first
      |((refine aM ?_);exact⟨(none,(_,_),_),⟨rfl,rfl⟩,h0.h⟩)
      |exact zB (⟨none,line,beg,i+1⟩:RLx) (by have:=hb.h;dsimp only;omega) ⟨hb.h.1,L,hK.h.1,hK.h.2,by have:=hb.h;dsimp only;omega⟩ (by simp only[lxO,lxB,lxH,Tok.c];exact aTd)
      |exact zB (⟨none,_,_,i+1⟩:RLx) (by have:=hb.h;dsimp only;omega) ⟨hb.h.1,L,hK.h.1,hK.h.2,by have:=hb.h;dsimp only;omega⟩ (by simp only[lxO,lxB,lxH,Tok.c];exact aTd)
    simp only[lxO,lxB,lxH]
    (repeat' first|refine gA ?_|refine gT ?_ ?_<;>intro hv<;>try cases hv;done|fail)
    all_goals first
     |((refine aM ?_);exact⟨(none,(_,_),_),⟨rfl,rfl⟩,h0.h⟩)
     |exact zB (⟨some F,line,beg,i+1⟩:RLx) (by have:=hb.h;dsimp only;omega) ⟨hb.h.1,L,hK.h.1,hK.h.2,by have:=hb.h;dsimp only;omega⟩ (by simp only[lxO,lxB,lxH,Tok.c];exact aTd)
     |exact zB (⟨some F,_,_,i+1⟩:RLx) (by have:=hb.h;dsimp only;omega) ⟨hb.h.1,L,hK.h.1,hK.h.2,by have:=hb.h;dsimp only;omega⟩ (by simp only[lxO,lxB,lxH,Tok.c];exact aTd)
   have hd:decide ((i:Int)<(s.length:Int))=false:=decide_eq_false (by omega);have hr:Hid (∃L:List Tok,slO E=.sl L.isEmpty L.isEmpty (L.map Tok.c)∧L.length≤s.length):=⟨L,by
    cases E with
    |none=>rw[hEL.1 rfl];rfl
    |some E=>cases L with
     |nil=>exact absurd (hEL.2 rfl) (by simp)
     |cons t r=>rw[← hE];rfl,by omega⟩
   clear hs3 hi' hi hE hEL hLi;rcases E with _|F
   ·simp only[lxO,lxB,lxH]
    (repeat' first|refine gA ?_|refine gT ?_ ?_<;>intro hv<;>try cases hv;done|fail)
    all_goals refine aM ?_<;>exact⟨(none,(_,_),_),⟨rfl,rfl⟩,hr.h⟩
   simp only[lxO,lxB,lxH]
   (repeat' first|refine gA ?_|refine gT ?_ ?_<;>intro hv<;>try cases hv;done|fail)
   all_goals refine aM ?_<;>exact⟨(some F,(_,_),_),⟨rfl,rfl⟩,hr.h⟩
  have hd:decide ((s.length:Int) > 65536)=true:=by simp;omega
  clear hl hs
  (have F_:=xbB;show W CC 0 77 (zA 17) _ ⟨[(0,_)],[]⟩ _)
  (repeat' first|refine gA ?_|refine gT ?_ ?_<;>intro hv<;>try cases hv;done|fail)
  all_goals refine aM ?_<;>exact⟨(none,(_,_),_),⟨rfl,rfl⟩,h0.h⟩
 obtain⟨⟨E,p,e⟩,h,L,h1,h2⟩:=key;refine⟨(L,p,e),?_,h2⟩;rw[h];simp only[zHS,h1]
end Go.Ab
