/- Lemmas. -/
import Derived.Test.YtdbfacakphncfaaGreatDoorG32
import Derived.Test.YtdbfacakphncfaaGreatDoorG29
set_option maxRecDepth 1000000
set_option maxHeartbeats 40000000
set_option linter.all false
namespace Go.Ab
open Go.Proofs
attribute [local irreducible] W RW RR
def yIn:((2:Int)==7)=false:=rfl
def yIo:((2:Int)==2)=true:=rfl
def yIT:((2:Int)==6)=false:=rfl
def yHc:((6:Int)==7)=false:=rfl
def yH5:((6:Int)==2)=false:=rfl
def yHw:((6:Int)==6)=true:=rfl
structure RXp where
 a:Int
 i:Nat
 d:Int
 T:Option (List (List Tree))
 e:Int
 b:Nat
theorem KR.trans{n i c j k:Nat}{T T1 T2:Option (List (List Tree))}(h1:KR n i c T j T1)(h2:KR n j 0 T1 k T2):KR n i c T k T2 :=
 ⟨Nat.le_trans h1.le h2.le,h2.hi,by have:=h1.nd;have:=h2.nd;omega,h1.nn.imp id fun h=>by rcases h2.nn with h'|h';exact absurd h' h;exact h',h2.ln⟩
def zM7 {nl cl:Bool} {L:List Tok} (hL:L.length<1000000) {m:Nat} (ih:RE nl cl L m) (lev i:Nat) (d:Int) (T:Option (List (List Tree))) (e:Int) (b:Nat) (hlev:lev≤7) (hi:i<L.length) (hT:rrN T≤i) (hl:rrL T) (hm:9 * (L.length - i)≤m+1) :
  ∃(a:Int) (i1:Nat) (d1:Int) (T1:Option (List (List Tree))) (e1:Int) (b1:Nat),Om CC 33 [.box 0 0,.t (.int .i64 (lev:Int))] (rr (.sl nl cl (L.map Tok.c)) (i+1) d T e b)=some (.val (.t (.int .i64 a)),rr (.sl nl cl (L.map Tok.c)) i1 d1 T1 e1 b1)∧(T=none∨T1≠none) ∧
   ∀(d2 op:Int) (ks:List (List Tree)) (p1 p2:Int),∃(a2:Int) (E2:List (List Tree)),Om CC 64 [.box 0 0,.t (.agg [.int .u8 op,.int .u8 0,.int .i64 0,.str [],.str [],.sl false false ks,.int .i64 p1,.int .i64 p2])] (rr (.sl nl cl (L.map Tok.c)) i1 d2 T1 e1 b1)=some (.val (.t (.int .i64 a2)),rr (.sl nl cl (L.map Tok.c)) i1 d2 (some E2) e1 b1)∧KR L.length i 0 T i1 (some E2)∧i<i1:=by
 obtain⟨a,i1,d1,T1,e1,b1,h1,k1,k2,k3,k4,k5⟩:=ih lev (i+1) d T e b hlev hi (by omega) hl (fun _=>by omega);refine⟨a,i1,d1,T1,e1,b1,h1,k4,fun d2 op ks p1 p2=>?_⟩;obtain⟨a2,E2,h2,g1,g2⟩:=zJy (.sl nl cl (L.map Tok.c)) i1 d2 T1 e1 b1 op 0 0 [] [] false false ks p1 p2 (by omega) k5;exact⟨a2,E2,h2,⟨by omega,k2,by rw[show rrN (some E2)=E2.length from rfl];omega,.inr (by simp),zJ2 g2⟩,by omega⟩
def zMp(l:Tree)(lev i:Nat)(d:Int)(T:Option (List (List Tree)))(e:Int)(b:Nat)(he:e≠0):Om CC 33 [.box 0 0,.t (.int .i64 (lev:Int))] (rr l i d T e b)=some (.val (.t (.int .i64 (-1))),rr l i d T e b):=by
 have he:(e != 0)=true:=by simpa using he
 (have F_:=c5 zF zG zE zD (c5 zC zT zL zQ (c5 zU zR zK zAl (c3 zAk zM zNq))))
 rcases T with _|E
 all_goals simp only[rr,rrT,rrR]<;>refine xW zKO rfl ?_<;>(simp only[zP,List.length_cons,List.length_nil,Nat.zero_add,Nat.reduceAdd];show W CC _ 116 (zA 33) _ _ _)<;>(repeat' first|refine gA ?_|refine gT ?_ ?_<;>intro hv<;>try cases hv;done|fail)<;>((refine aM ?_);rfl)
def zQU (nl cl:Bool) (L:List Tok) (hL:L.length<1000000) (m:Nat) (ih:RE nl cl L m) (i:Nat) (d:Int) (T:Option (List (List Tree))) (b:Nat) (hi:i≤L.length) (hT:rrN T≤i) (hl:rrL T) (hm:9 * (L.length - i)≤m) :
  ∃a i' d' T' e' b',Om CC 33 [.box 0 0,.t (.int .i64 ((7:Nat):Int))] (rr (.sl nl cl (L.map Tok.c)) i d T 0 b)=some (.val (.t (.int .i64 a)),rr (.sl nl cl (L.map Tok.c)) i' d' T' e' b')∧KR L.length i 0 T i' T':=by
 obtain⟨a1,i1,d1,T1,e1,b1,h,kr⟩:=zSj nl cl L hL m ih i d T 0 b hi hT hl (by omega);have k0:((0:Int) != 0)=false:=rfl;have k7:(((7:Nat):Int)==7)=true:=rfl;have hnn:=kr.nn;have hkr:Hid _:=⟨kr⟩
 generalize L.map Tok.c=l at *;clear kr hi hT hl hm
 (have F_:=c5 zF zG zE zD (c5 zC zT zL zQ (c5 zU zR zK zAl (c3 zAk zM (c2 zNq zRL)))))
 rcases T with _|E<;>rcases T1 with _|E1
 all_goals (first|(rcases hnn with h|h;cases h;exact absurd rfl h)|skip)<;>clear hnn<;>simp only[rr,rrT,rrR] at h ⊢<;>refine zBa zKO rfl ?_<;>(simp only[zP,List.length_cons,List.length_nil,Nat.zero_add,Nat.reduceAdd];show W CC _ 116 (zA 33) _ _ _)<;>(repeat' first|refine gA ?_|refine gT ?_ ?_<;>intro hv<;>try cases hv;done|fail)<;>refine aM ?_
 all_goals first
  |exact⟨_,_,_,none,_,_,⟨rfl,rfl⟩,hkr.h⟩
  |exact⟨_,_,_,some E1,_,_,⟨rfl,rfl⟩,hkr.h⟩
def zSx (nl cl:Bool) (L:List Tok) (hL:L.length<1000000) (m:Nat) (ih:RE nl cl L m) (lev i:Nat) (d:Int) (T:Option (List (List Tree))) (b:Nat) (w:List Nat) (hw:Om CC 62 [.box 0 0] (rr (.sl nl cl (L.map Tok.c)) i d T 0 b)=some (.val (.t (.str w)),rr (.sl nl cl (L.map Tok.c)) i d T 0 b)) (hi:i<L.length) (hT:rrN T≤i) (hl:rrL T) (hm:9 * (L.length - i)≤m+1)
  (hq:lev=2∧beqL w [110,111,116]=true∨lev=6∧beqL w [45]=true) :
  ∃a i' d' T' e' b',Om CC 33 [.box 0 0,.t (.int .i64 (lev:Int))] (rr (.sl nl cl (L.map Tok.c)) i d T 0 b)=some (.val (.t (.int .i64 a)),rr (.sl nl cl (L.map Tok.c)) i' d' T' e' b')∧KR L.length i 0 T i' T':=by
 obtain⟨⟨p1,p2⟩,hp,-⟩:=zEo nl cl L i d T 0 b;obtain⟨d1,e1,b1,hde,-⟩:=zHP (.sl nl cl (L.map Tok.c)) i d T 0 b;obtain⟨a2,i2,d2,T2,e2,b2,h2,hnn,hput⟩:=zM7 hL ih lev i d1 T e1 b1 (by omega) hi hT hl hm;obtain⟨a3,E3,h3,kr3,-⟩:=hput (IntKind.i64.wrap (d2 - 1)) 6 [[.int .i64 a2]] p1 p2;obtain⟨a4,E4,h4,kr4,-⟩:=hput (IntKind.i64.wrap (d2 - 1)) 17 [[.int .i64 a2]] p1 p2;have hkr:Hid _:=⟨And.intro (KR.refl (Nat.le_of_lt hi) hl) (And.intro kr3 kr4)⟩
 have hwi:=wI64 i (by omega);have k0:((0:Int) != 0)=false:=rfl;dsimp only at hp;generalize L.map Tok.c=l at *;clear kr3 kr4 hi hT hl hm hput
 (have F_:=c5 zF zG zE zD (c5 zC zT zL zQ (c5 zU zR zK zAl (c5 zAk zM zNq zHm (c5 zFP zGY zEZ zFL (c5 zCZ zHo zF6 zRL (c5 zWS @yIn @yIo @yIT (c3 @yHc @yH5 @yHw))))))))
 rcases T with _|E<;>rcases T2 with _|E2
 all_goals (first|(rcases hnn with h|h;cases h;exact absurd rfl h)|skip)<;>clear hnn<;>simp only[rr,rrT,rrR] at hw hp hde h2 h3 h4 ⊢<;>rcases hq with ⟨rfl,hq⟩|⟨rfl,hq⟩<;>refine zBa zKO rfl ?_<;>(simp only[zP,List.length_cons,List.length_nil,Nat.zero_add,Nat.reduceAdd];show W CC _ 116 (zA 33) _ _ _)<;>(first|rw[show (((2:Nat):Int))=2 from rfl] at h2 ⊢|rw[show (((6:Nat):Int))=6 from rfl] at h2 ⊢)<;>(repeat' first|refine gA ?_|refine gT ?_ ?_<;>intro hv<;>try cases hv;done|fail)<;>refine aM ?_
 all_goals first
  |exact⟨_,_,_,some E3,_,_,⟨rfl,rfl⟩,hkr.h.2.1⟩
  |exact⟨_,_,_,some E4,_,_,⟨rfl,rfl⟩,hkr.h.2.2⟩
  |exact⟨_,_,_,none,_,_,⟨rfl,rfl⟩,hkr.h.1⟩
  |exact⟨_,_,_,some E,_,_,⟨rfl,rfl⟩,hkr.h.1⟩
def zPf {nl cl:Bool} {L:List Tok} (hL:L.length<1000000) {m:Nat} (ih:RE nl cl L m) {lev i0:Nat} {T0:Option (List (List Tree))} (hlev:lev<7) (h0:rrN T0≤i0) (hm:9 * (L.length - i0)≤m+1) (x:RXp) (hx:KR L.length i0 0 T0 x.i x.T) (hlt:x.i<L.length) :
  ∃(w:List Nat) (o p1 p2 a2:Int) (i2:Nat) (d2:Int) (T2:Option (List (List Tree))) (e2:Int) (b2:Nat) (a3:Int) (E3:List (List Tree)),Om CC 62 [.box 0 0] (rr (.sl nl cl (L.map Tok.c)) x.i x.d x.T x.e x.b)=some (.val (.t (.str w)),rr (.sl nl cl (L.map Tok.c)) x.i x.d x.T x.e x.b) ∧
   Om CC 65 [.t (.int .i64 (lev:Int)),.t (.str w)] []=some (.val (.t (.int .u8 o)),[])∧Om CC 61 [.box 0 0] (rr (.sl nl cl (L.map Tok.c)) x.i x.d x.T x.e x.b)=some (.val (.t (.agg [.int .i64 p1,.int .i64 p2])),rr (.sl nl cl (L.map Tok.c)) x.i x.d x.T x.e x.b) ∧
   Om CC 33 [.box 0 0,.t (.int .i64 ((lev+1:Nat):Int))] (rr (.sl nl cl (L.map Tok.c)) (x.i+1) x.d x.T x.e x.b)=some (.val (.t (.int .i64 a2)),rr (.sl nl cl (L.map Tok.c)) i2 d2 T2 e2 b2)∧(x.T=none∨T2≠none) ∧
   Om CC 64 [.box 0 0,.t (.agg [.int .u8 o,.int .u8 0,.int .i64 0,.str [],.str [],.sl false false [[.int .i64 x.a],[.int .i64 a2]],.int .i64 p1,.int .i64 p2])] (rr (.sl nl cl (L.map Tok.c)) i2 d2 T2 e2 b2)=some (.val (.t (.int .i64 a3)),rr (.sl nl cl (L.map Tok.c)) i2 d2 (some E3) e2 b2)∧KR L.length i0 0 T0 i2 (some E3)∧x.i<i2∧IntKind.i64.wrap ((x.i:Int)+1)=((x.i+1:Nat):Int):=by
 have k1:=hx.le;have k2:=hx.hi;have k3:=hx.nd;obtain⟨w,hw,-⟩:=zBH nl cl L x.i x.d x.T x.e x.b;obtain⟨o,ho,-⟩:=zVc lev w hlev;obtain⟨⟨p1,p2⟩,hp,-⟩:=zEo nl cl L x.i x.d x.T x.e x.b;obtain⟨a2,i2,d2,T2,e2,b2,h2,hnn,hput⟩:=zM7 hL ih (lev+1) x.i x.d x.T x.e x.b (by omega) hlt (by omega) hx.ln (by omega);obtain⟨a3,E3,h3,kr3,hlt2⟩:=hput d2 o [[.int .i64 x.a],[.int .i64 a2]] p1 p2;exact⟨w,o,p1,p2,a2,i2,d2,T2,e2,b2,a3,E3,hw,ho,hp,h2,hnn,h3,hx.trans kr3,hlt2,by rw[wrap64]<;>omega⟩
def rvH(l:Tree)(i:Nat)(d:Int)(T:Option (List (List Tree)))(b:Nat)(p1 p2:Int)(v:Nat):Heap:=match T with
 |none=>[.box [.t l,.t (.int .i64 (i:Int)),.t (.int .i64 d),.t (.sl true true []),.t (.int .i64 0),.t (.int .i64 (b:Int))],.box [.t (.int .i64 p1),.t (.int .i64 p2)]]
 |some E=>[.box [.t l,.t (.int .i64 (i:Int)),.t (.int .i64 d),.hs 1 v,.t (.int .i64 0),.t (.int .i64 (b:Int))],.arr 8 v false E,.box [.t (.int .i64 p1),.t (.int .i64 p2)]]
def yIO(lev:Int)(H:Nat→Heap)(e:Ex)(st:St):Prop:=e=.normal∧∃v,st.h=H v∧Ab.get st.T 0=.box 0 0∧Ab.get st.T 1=.t (.int .i64 lev)∧Ab.get st.T 116=.unk
def zTS (nl cl:Bool) (L:List Tok) (hL:L.length<1000000) (m:Nat) (ih:RE nl cl L m) (lev i:Nat) (d:Int) (T:Option (List (List Tree))) (b:Nat) (w:List Nat) (hw:Om CC 62 [.box 0 0] (rr (.sl nl cl (L.map Tok.c)) i d T 0 b)=some (.val (.t (.str w)),rr (.sl nl cl (L.map Tok.c)) i d T 0 b)) (hlev:lev<7) (hi:i≤L.length) (hT:rrN T≤i) (hl:rrL T) (hm:9 * (L.length - i)+(8 - lev)≤m+1)
  (hq2:((lev:Int)==2)=false∨beqL w [110,111,116]=false) (hq6:((lev:Int)==6)=false∨beqL w [45]=false) :
  ∃a i' d' T' e' b',Om CC 33 [.box 0 0,.t (.int .i64 (lev:Int))] (rr (.sl nl cl (L.map Tok.c)) i d T 0 b)=some (.val (.t (.int .i64 a)),rr (.sl nl cl (L.map Tok.c)) i' d' T' e' b')∧KR L.length i 0 T i' T':=by
 obtain⟨⟨p1,p2⟩,hp,-⟩:=zEo nl cl L i d T 0 b;obtain⟨a1,i1,d1,T1,e1,b1,h1,kr1⟩:=ih (lev+1) i d T 0 b (by omega) hi hT hl (fun _=>by omega);have k7:((lev:Int)==7)=false:=by simp;omega
 have k0:((0:Int) != 0)=false:=rfl;have hwl:=wI64 lev (by omega);dsimp only at hp;have hnn:=kr1.nn;have hkr:Hid _:=⟨kr1⟩
 have hz:Hid _:=⟨And.intro hlev (And.intro hT hm)⟩
 generalize hll:Tree.sl nl cl (L.map Tok.c)=l at *;have hll2:Hid _:=⟨hll⟩
 clear kr1 hlev hi hT hl hm hll;obtain⟨x0,hx0⟩:∃x0:RXp,Hid (x0=⟨a1,i1,d1,T1,e1,b1⟩):=⟨_,⟨rfl⟩⟩;obtain⟨H0,hH0⟩:∃H0:Nat→Heap,Hid (H0=rvH l i d T b p1 p2):=⟨_,⟨rfl⟩⟩;have v1:∀v,Nat.beq v v=true:=Nat.beq_refl;have v2:∀v:Nat,decide (v=v)=true:=fun v=>decide_eq_true rfl
 (have F_:=c5 zF zG zE zD (c5 zC zT zL zQ (c5 zU zR zK zAl (c5 zAk zM zNq zHm (c5 zFP zGY zEZ zFL (c5 zCZ zHo zF6 zRL zWS))))))
 rcases T with _|E<;>rcases T1 with _|E1
 all_goals first|(rcases hnn with h|h;cases h;exact absurd rfl h)|skip
 all_goals
  clear hnn;simp only[rr,rrT,rrR] at hw hp h1 ⊢;refine zBa zKO rfl ?_
  (simp only[zP,List.length_cons,List.length_nil,Nat.zero_add,Nat.reduceAdd];show W CC _ 116 (zA 33) _ _ _)
  refine zAi (zAi (zAi (zAi (zBg (W.mono (Q:=yIO (lev:Int) H0) ?_ ?_)))))
  ·rcases hq2 with hq2|hq2<;>rcases hq6 with hq6|hq6
   all_goals (repeat' first|refine gA ?_|refine gT ?_ ?_<;>intro hv<;>try cases hv;done|fail)<;>(rw[hH0.h];first|exact⟨rfl,0,rfl,rfl,rfl,rfl⟩|exact⟨rfl,_,rfl,rfl,rfl,rfl⟩)
  rintro e ⟨T9,h9⟩ ⟨rfl,v9,hh,g0,g1,gN⟩;rw[hH0.h] at hh;simp only[rvH] at hh g0 g1 gN;subst hh;clear hq2 hq6 hH0;have v3:=v1 v9;have v4:=v2 v9
  (repeat' first|refine gA ?_|refine gT ?_ ?_<;>intro hv<;>try cases hv;done|fail)
  refine zW (α:=RXp) (fun x=>⟨[(0,.box 0 0),(1,.t (.int .i64 (lev:Int))),(8,.t (.int .i64 x.a))],rr l x.i x.d x.T x.e x.b⟩) (fun x=>L.length - x.i) (fun x=>KR L.length i 0 _ x.i x.T) x0 (by rw[hx0.h];simp only[rr,rrT,rrR];(have X_:=c5 @g0 @g1 @gN @v3 @v4;exact aTdX)) (by rw[hx0.h];exact hkr.h) ?_;clear hw hp h1 hkr g0 g1 gN v1 v2 v3 v4 hx0;intro x hx;have hxn:=hx.nn;have hkx:Hid _:=⟨hx⟩
  rcases Nat.lt_or_ge x.i L.length with hlt|hlt
  ·obtain⟨w,o,p1,p2,a2,i2,d2,T2,e2,b2,a3,E3,f1,f2,f3,f4,f5,f6,f7,f8,f9⟩:=zPf hL ih hz.h.1 hz.h.2.1 (by have:=hz.h;omega) x hx hlt;have hag:Hid _:=⟨And.intro f7 (And.intro f8 hlt)⟩
   rw[hll2.h] at f1 f3 f4 f6;obtain⟨a,j,d,T,e,b⟩:=x;dsimp only at hxn f1 f3 f4 f5 f6 f9;clear hx f7 f8 hlt;rcases T with _|E0<;>rcases T2 with _|E2
   all_goals (first|(rcases hxn with h|h;cases h;exact absurd rfl h)|skip)<;>(first|(rcases f5 with h|h;cases h;exact absurd rfl h)|skip)<;>clear hxn f5<;>simp only[rr,rrT,rrR] at f1 f3 f4 f6 ⊢<;>(repeat' first|refine gA ?_|refine gT ?_ ?_<;>intro hv<;>try cases hv;done|fail)
   all_goals first
    |exact zB (⟨a3,i2,d2,some E3,e2,b2⟩:RXp) (by have:=hag.h.2.1;have:=hag.h.2.2;dsimp only at *;omega) hag.h.1 (by simp only[rr,rrT,rrR];exact aTd)
    |((refine aM ?_);exact⟨_,_,_,some E3,_,_,⟨rfl,rfl⟩,hag.h.1⟩)
    |((refine aM ?_);exact⟨_,_,_,none,_,_,⟨rfl,rfl⟩,hkx.h⟩)
    |((refine aM ?_);exact⟨_,_,_,some E0,_,_,⟨rfl,rfl⟩,hkx.h⟩)
  obtain⟨w,f1,f0⟩:=zBH nl cl L x.i x.d x.T x.e x.b;obtain rfl:w=[]:=f0.resolve_right (Nat.not_lt.2 hlt);have f2:=zN2 lev hz.h.1;have k8:((0:Int) != 0)=false:=rfl;rw[hll2.h] at f1;obtain⟨a,j,d,T,e,b⟩:=x;dsimp only at hxn f1;clear hx f0 hlt;rcases T with _|E0
  all_goals (first|(rcases hxn with h|h;cases h;exact absurd rfl h)|skip)<;>clear hxn<;>simp only[rr,rrT,rrR] at f1 ⊢<;>(repeat' first|refine gA ?_|refine gT ?_ ?_<;>intro hv<;>try cases hv;done|fail)<;>refine aM ?_
  all_goals first
   |exact⟨_,_,_,none,_,_,⟨rfl,rfl⟩,hkx.h⟩
   |exact⟨_,_,_,some E0,_,_,⟨rfl,rfl⟩,hkx.h⟩
def zMs(nl cl:Bool)(L:List Tok)(hL:L.length<1000000):∀m,RE nl cl L m
 |0=>fun lev i d T e b hlev hi hT hl hm=>by
  have he:e≠0:=fun h=>by have:=hm h;omega
  exact⟨_,i,d,T,e,b,zMp _ lev i d T e b he,KR.refl hi hl⟩
 |m+1=>fun lev i d T e b hlev hi hT hl hm=>by
  have ih:=zMs nl cl L hL m
  by_cases he:e=0
  ·subst he;have hm:=hm rfl;rcases Nat.lt_or_ge lev 7 with h7|h7
   ·obtain⟨w,hw,hlt⟩:=zBH nl cl L i d T 0 b
    by_cases hq:lev=2∧beqL w [110,111,116]=true∨lev=6∧beqL w [45]=true
    ·have hi':i<L.length:=by
      rcases hlt with rfl|h
      ·rcases hq with ⟨_,h⟩|⟨_,h⟩<;>cases h
      exact h
     exact zSx nl cl L hL m ih lev i d T b w hw hi' hT hl (by omega) hq
    refine zTS nl cl L hL m ih lev i d T b w hw h7 hi hT hl (by omega) ?_ ?_
    ·by_cases h:lev=2
     ·right;exact Bool.eq_false_iff.2 fun h'=>hq (.inl ⟨h,h'⟩)
     left;simp;omega
    by_cases h:lev=6
    ·right;exact Bool.eq_false_iff.2 fun h'=>hq (.inr ⟨h,h'⟩)
    left;simp;omega
   obtain rfl:lev=7:=by omega
   exact zQU nl cl L hL m ih i d T b hi hT hl (by omega)
  exact⟨_,i,d,T,e,b,zMp _ lev i d T e b he,KR.refl hi hl⟩
def zPl(nl cl:Bool)(L:List Tok)(hL:L.length<1000000):∃x:Option (List (List Tree))×Nat×Int,Om CC 18 [.t (.sl nl cl (L.map Tok.c)),.t (.int .i64 0)] []=some (.val (.tup [.t (slO x.1),.t (.int .i64 (x.2.1:Int)),.t (.int .i64 x.2.2)]),[])∧True:=by
 obtain⟨a,i,d,T,e,b,h,-⟩:=zMs nl cl L hL (9 * L.length+8) 0 0 0 none 0 0 (by omega) (Nat.zero_le _) (Nat.zero_le _) zWz (fun _=>by omega);have hd1:decide ((0:Int)<0)=false:=rfl;have hd2:decide ((0:Int) > ((L.map Tok.c).length:Int))=false:=decide_eq_false (by omega);rw[show (((0:Nat):Int))=0 from rfl] at h;have h:Om CC 33 [.box 0 0,.t (.int .i64 0)] [.box [.t (.sl nl cl (L.map Tok.c)),.t (.int .i64 0),.t (.int .i64 0),.t (.sl true true []),.t (.int .i64 0),.t (.int .i64 0)]]=some (.val (.t (.int .i64 a)),rr (.sl nl cl (L.map Tok.c)) i d T e b):=h;generalize L.map Tok.c=l at *;refine zH yEv rfl ?_
 (have F_:=c5 zF zG zE zD (c5 zC zT zL zQ (c5 zU zR zK zAl (c3 zAk zM (c2 yHn zFL)))))
 rcases T with _|E
 all_goals simp only[rr,rrT,rrR] at h<;>(simp only[zP,List.length_cons,List.length_nil,Nat.zero_add,Nat.reduceAdd];show W CC _ 50 (zA 18) _ _ _)<;>(repeat' first|refine gA ?_|refine gT ?_ ?_<;>intro hv<;>try cases hv;done|fail)<;>refine aM ?_
 all_goals first
  |exact⟨(none,b,e),⟨rfl,rfl⟩,trivial⟩
  |exact⟨(none,0,7),⟨rfl,rfl⟩,trivial⟩
  |exact⟨(none,i,0),⟨rfl,rfl⟩,trivial⟩
  |exact⟨(some E,i,0),⟨rfl,rfl⟩,trivial⟩
def xbF:=c5 zF zG zE zD (c5 zC zL zU zR zW1)
def zNE(L:List Tok)(hL:L.length<1000000):∃p:Int×Int,Om CC 19 [.t (.sl L.isEmpty L.isEmpty (L.map Tok.c))] []=some (.val (.t (.agg [.int .i64 p.1,.int .i64 p.2])),[])∧True:=by
 refine zH yEc rfl ?_;cases hLe:L with
 |nil =>
  have h0:((([]:List Tok).map Tok.c).length:Int)==0:=rfl
  (have F_:=xbF;show W CC 0 47 (zA 19) _ ⟨[(0,_)],[]⟩ _)
  (repeat' first|refine gA ?_|refine gT ?_ ?_<;>intro hv<;>try cases hv;done|fail)
  all_goals refine aM ?_<;>exact⟨(_,_),⟨rfl,rfl⟩,trivial⟩
 |cons t r =>
  have hl1:((t::r).length:Int)=((t::r).map Tok.c).length:=by rw[List.length_map]
  have hlen:(t::r).length=r.length+1:=rfl;rw[hLe] at hL;have h0:((((t::r).map Tok.c).length:Int)==0)=false:=by rw[← hl1,hlen];simp;omega
  have hw:IntKind.i64.wrap ((((t::r).map Tok.c).length:Int) - 1)=(r.length:Int):=by rw[← hl1,wrap64]<;>omega
  have hT:=wD (L:=t::r) (i:=r.length) (t:=(t::r)[r.length]'(by simp)) (List.getElem?_eq_getElem _);generalize (t::r)[r.length]'(by simp)=u at hT;rw[show (t::r).isEmpty=false from rfl];generalize (t::r).map Tok.c=l at *;generalize r.length=n at *;clear hl1 hlen hL hLe
  (have F_:=xbF;show W CC 0 47 (zA 19) _ ⟨[(0,_)],[]⟩ _)
  (repeat' first|refine gA ?_|refine gT ?_ ?_<;>intro hv<;>try cases hv;done|fail)
  all_goals refine aM ?_<;>exact⟨(_,_),⟨rfl,rfl⟩,trivial⟩
def xbG:=c5 zF zG zE zD (c5 zC zL zQ zU (c5 zR yBv zW2 zXi zW0))
def zRN(s:List Nat)(hs:s.length<1000000):∃x:Option (List (List Tree))×(Int×Int)×Int,Om CC 9 [.t (.str s)] []=some (.val (.tup [.t (slO x.1),.t (.agg [.int .i64 x.2.1.1,.int .i64 x.2.1.2]),.t (.int .i64 x.2.2)]),[])∧True:=by
 refine zH yH6 rfl ?_;obtain⟨⟨L,⟨p1,p2⟩,e⟩,hlex,hll⟩:=zVA s hs;dsimp only at hlex hll;obtain⟨⟨T,n,e2⟩,hp,-⟩:=zPl L.isEmpty L.isEmpty L (by omega);obtain⟨⟨q1,q2⟩,hb,-⟩:=zNE L (by omega);dsimp only at hp hb;simp only[zHS] at hlex
 by_cases hn:n<L.length
 ·obtain⟨t,ht⟩:∃t,L[n]?=some t:=⟨_,List.getElem?_eq_getElem hn⟩;have hTk:=wD ht;have hd:decide ((n:Int)<((L.map Tok.c).length:Int))=true:=decide_eq_true (by rw[List.length_map];omega);have hde:((n:Int)==((L.map Tok.c).length:Int))=false:=by rw[List.length_map];simp;omega
  generalize L.map Tok.c=l at *;generalize L.isEmpty=le at *;clear hn ht hll hs;rcases T with _|E
  all_goals simp only[slO] at hp<;>(have F_:=xbG;show W CC 0 51 (zA 9) _ ⟨[(0,_)],[]⟩ _)<;>(repeat' first|refine gA ?_|refine gT ?_ ?_<;>intro hv<;>try cases hv;done|fail)<;>refine aM ?_<;>exact⟨(none,(_,_),_),⟨rfl,rfl⟩,trivial⟩
 have hd:decide ((n:Int)<((L.map Tok.c).length:Int))=false:=decide_eq_false (by rw[List.length_map];omega);generalize L.map Tok.c=l at *;generalize L.isEmpty=le at *;clear hn hll hs;rcases T with _|E
 all_goals simp only[slO] at hp<;>(have F_:=xbG;show W CC 0 51 (zA 9) _ ⟨[(0,_)],[]⟩ _)<;>(repeat' first|refine gA ?_|refine gT ?_ ?_<;>intro hv<;>try cases hv;done|fail)<;>refine aM ?_<;>(first|exact⟨(none,(_,_),_),⟨rfl,rfl⟩,trivial⟩|exact⟨(some E,(_,_),_),⟨rfl,rfl⟩,trivial⟩)
end Go.Ab
