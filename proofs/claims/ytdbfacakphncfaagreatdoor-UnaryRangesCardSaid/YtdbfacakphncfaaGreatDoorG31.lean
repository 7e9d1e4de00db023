/- Lemmas. -/
import Derived.Test.YtdbfacakphncfaaGreatDoorG30
set_option maxRecDepth 1000000
set_option maxHeartbeats 40000000
set_option linter.all false
namespace Go.Ab
open Go.Proofs
attribute [local irreducible] W RW RR
structure KR (n i c:Nat) (T:Option (List (List Tree))) (i':Nat) (T':Option (List (List Tree))):Prop where
 le:i≤i'
 hi:i'≤n
 nd:rrN T'+i+c≤rrN T+i'
 nn:T=none∨T'≠none
 ln:rrL T'
def RE(nl cl:Bool)(L:List Tok)(m:Nat):Prop:=∀(lev i:Nat) (d:Int) (T:Option (List (List Tree))) (e:Int) (b:Nat),lev≤7→i≤L.length→rrN T≤i→rrL T→(e=0→9 * (L.length - i)+(8 - lev)≤m) →
 ∃a i' d' T' e' b',Om CC 33 [.box 0 0,.t (.int .i64 (lev:Int))] (rr (.sl nl cl (L.map Tok.c)) i d T e b)=some (.val (.t (.int .i64 a)),rr (.sl nl cl (L.map Tok.c)) i' d' T' e' b')∧KR L.length i 0 T i' T'
def zWz:rrL none:=fun _ h=>by cases h
def zJ2{E:List (List Tree)}(h:lens 8 E=true):rrL (some E):=fun _ h'=>by cases h';exact h
def rcH(l:Tree)(i2:Nat)(d2:Int)(T:Option (List (List Tree)))(e2:Int)(b2:Nat)(op p1 p2:Int)(v:Nat):Heap:=match T with
 |none=>[.box [.t l,.t (.int .i64 (i2:Int)),.t (.int .i64 d2),.t (.sl true true []),.t (.int .i64 e2),.t (.int .i64 (b2:Int))],.box [.t (.int .u8 op),.t (.int .u8 0),.t (.int .i64 0),.t (.str []),.t (.str []),.t (.sl true true []),.t (.int .i64 p1),.t (.int .i64 p2)]]
 |some E=>[.box [.t l,.t (.int .i64 (i2:Int)),.t (.int .i64 d2),.hs 1 v,.t (.int .i64 e2),.t (.int .i64 (b2:Int))],.arr 8 v false E,.box [.t (.int .u8 op),.t (.int .u8 0),.t (.int .i64 0),.t (.str []),.t (.str []),.t (.sl true true []),.t (.int .i64 p1),.t (.int .i64 p2)]]
def rcK(T:Option (List (List Tree))):Nat:=match T with
 |none=>1
 |some _=>2
def yC3(k:Nat)(least most:Int)(H:Nat→Heap)(e:Ex)(st:St):Prop:=e=.normal∧∃v,st.h=H v∧Ab.get st.T 0=.box 0 0∧Ab.get st.T 2=.t (.int .i64 least)∧Ab.get st.T 3=.t (.int .i64 most)∧Ab.get st.T 9=.box k 0∧Ab.get st.T 93=.unk
structure RCl where
 K:Option (List (List Tree))
 i:Nat
 d:Int
 T:Option (List (List Tree))
 e:Int
 b:Nat
def kb(K:Option (List (List Tree))):Bool:=match K with
 |none=>true
 |some _=>false
def kc(K:Option (List (List Tree))):List (List Tree):=match K with
 |none=>[]
 |some E=>E
def clB(T:Option (List (List Tree))):AV:=match T with
 |none=>.box 1 0
 |some _=>.box 2 0
def clK(T K:Option (List (List Tree))):AV:=match K with
 |none=>.t (.sl true true [])
 |some _=>match T with
  |none=>.hs 2 0
  |some _=>.hs 3 0
def clA(K:Option (List (List Tree))):Heap:=match K with
 |none=>[]
 |some E=>[.arr 1 0 false E]
def clH(l:Tree)(op p1 p2:Int)(x:RCl):Heap:=rr l x.i x.d x.T x.e x.b++([.box [.t (.int .u8 op),.t (.int .u8 0),.t (.int .i64 0),.t (.str []),.t (.str []),clK x.T x.K,.t (.int .i64 p1),.t (.int .i64 p2)]]++clA x.K)
structure RCp (n i0:Nat) (T0:Option (List (List Tree))) (x:RCl):Prop where
 lo:i0+1≤x.i
 hi:x.i≤n
 nd:rrN x.T+i0+1≤rrN T0+x.i
 nn:T0=none∨x.T≠none
 ln:rrL x.T
def zRz{E:List (List Tree)}{a:Int}(h:lens 1 E=true):lens 1 (E++[[.int .i64 a]])=true:=by unfold lens at *;rw[List.all_append,h];rfl
def zHE (nl cl:Bool) {L:List Tok} (hL:L.length<1000000) (op p1 p2:Int) {i0:Nat} {T0:Option (List (List Tree))} (h0:rrN T0≤i0) {K0:Option (List (List Tree))} {j:Nat} {d:Int} {T:Option (List (List Tree))} {e:Int} {b:Nat} (hx:RCp L.length i0 T0 ⟨K0,j,d,T,e,b⟩) (K:Option (List (List Tree))) :
  ∃i' e' b' a E',Om CC 104 [.box 0 0,.t (.str [41])] (rr (.sl nl cl (L.map Tok.c)) j d T e b)=some (.val (.tup []),rr (.sl nl cl (L.map Tok.c)) i' d T e' b') ∧
   Om CC 64 [.box 0 0,.t (.agg [.int .u8 op,.int .u8 0,.int .i64 0,.str [],.str [],.sl (kb K) (kb K) (kc K),.int .i64 p1,.int .i64 p2])] (rr (.sl nl cl (L.map Tok.c)) i' (IntKind.i64.wrap (d - 1)) T e' b')=some (.val (.t (.int .i64 a)),rr (.sl nl cl (L.map Tok.c)) i' (IntKind.i64.wrap (d - 1)) (some E') e' b')∧KR L.length i0 0 T0 i' (some E'):=by
 obtain⟨q1,q2,q3,q4,q5⟩:=hx;dsimp only at q1 q2 q3 q4 q5;obtain⟨i',e',b',h1,g1,g2,-⟩:=zEb nl cl L j d T e b [41] (by simp) q2 hL;obtain⟨a,E',h2,k1,k2⟩:=zJy (.sl nl cl (L.map Tok.c)) i' (IntKind.i64.wrap (d - 1)) T e' b' op 0 0 [] [] (kb K) (kb K) (kc K) p1 p2 (by omega) q5;refine⟨i',e',b',a,E',h1,h2,by omega,g2,?_,.inr (by simp),zJ2 k2⟩;rw[show rrN (some E')=E'.length from rfl];omega
def zPi {nl cl:Bool} {L:List Tok} (hL:L.length<1000000) {m:Nat} (ih:RE nl cl L m) {i0:Nat} {T0:Option (List (List Tree))} (h0:rrN T0≤i0) (hm:9 * (L.length - i0)≤m+1) (hi0:i0<L.length) {K:Option (List (List Tree))} {j:Nat} {d:Int} {T:Option (List (List Tree))} {e:Int} {b:Nat} (hx:RCp L.length i0 T0 ⟨K,j,d,T,e,b⟩) :
  ∃(a1:Int) (i1:Nat) (d1:Int) (T1:Option (List (List Tree))) (e1:Int) (b1:Nat) (w:List Nat) (e3:Int) (b3:Nat),Om CC 33 [.box 0 0,.t (.int .i64 0)] (rr (.sl nl cl (L.map Tok.c)) j d T e b)=some (.val (.t (.int .i64 a1)),rr (.sl nl cl (L.map Tok.c)) i1 d1 T1 e1 b1) ∧
   Om CC 62 [.box 0 0] (rr (.sl nl cl (L.map Tok.c)) i1 d1 T1 e1 b1)=some (.val (.t (.str w)),rr (.sl nl cl (L.map Tok.c)) i1 d1 T1 e1 b1) ∧
   Om CC 101 [.box 0 0,.t (.int .i64 14)] (rr (.sl nl cl (L.map Tok.c)) i1 d1 T1 e1 b1)=some (.val (.tup []),rr (.sl nl cl (L.map Tok.c)) i1 d1 T1 e3 b3) ∧
   (e3 != 0)=true∧(beqL w [44]=true→i1<L.length)∧IntKind.i64.wrap ((i1:Int)+1)=((i1+1:Nat):Int)∧j≤i1∧(T=none∨T1≠none)∧∀K1,RCp L.length i0 T0 ⟨K1,i1,d1,T1,e1,b1⟩∧RCp L.length i0 T0 ⟨K1,i1,d1,T1,e3,b3⟩:=by
 obtain⟨q1,q2,q3,q4,q5⟩:=hx;dsimp only at q1 q2 q3 q4 q5;obtain⟨a1,i1,d1,T1,e1,b1,hex,k1,k2,k3,k4,k5⟩:=ih 0 j d T e b (by omega) q2 (by omega) q5 (fun _=>by omega);obtain⟨w,hn,hlt⟩:=zBH nl cl L i1 d1 T1 e1 b1;obtain⟨e3,b3,hs,he⟩:=zFi (.sl nl cl (L.map Tok.c)) i1 d1 T1 e1 b1 14;refine⟨a1,i1,d1,T1,e1,b1,w,e3,b3,hex,hn,hs,by simpa using he (by decide),fun h=>?_,by rw[wrap64]<;>omega,k1,k4,fun K1=>⟨⟨?_,?_,?_,?_,?_⟩,⟨?_,?_,?_,?_,?_⟩⟩⟩
 ·rcases hlt with rfl|h'
  ·cases h
  exact h'
 all_goals dsimp only<;>(first|omega|exact k5|(rcases q4 with h|h;exact .inl h;exact .inr (by rcases k4 with h'|h';exact absurd h' h;exact h')))
def zTK (nl cl:Bool) (L:List Tok) (hL:L.length<1000000) (m:Nat) (ih:RE nl cl L m) (op least most:Int) (i:Nat) (d:Int) (T:Option (List (List Tree))) (e:Int) (b:Nat) (hi:i<L.length) (hT:rrN T≤i) (hl:rrL T) (hm:9 * (L.length - i)≤m+1) :
  ∃a i' d' T' e' b',Om CC 103 [.box 0 0,.t (.int .u8 op),.t (.int .i64 least),.t (.int .i64 most)] (rr (.sl nl cl (L.map Tok.c)) i d T e b)=some (.val (.t (.int .i64 a)),rr (.sl nl cl (L.map Tok.c)) i' d' T' e' b')∧KR L.length i 0 T i' T':=by
 obtain⟨p,hp,-⟩:=zEo nl cl L i d T e b;obtain⟨w,hw,-⟩:=zBH nl cl L (i+1) d T e b;obtain⟨d1,e1,b1,hde,-⟩:=zHP (.sl nl cl (L.map Tok.c)) (i+1) d T e b;have hst:∃(i2:Nat) (d2 e2:Int) (b2:Nat),((beqL w [40]=false∧d2=d∧Om CC 104 [.box 0 0,.t (.str [40])] (rr (.sl nl cl (L.map Tok.c)) (i+1) d T e b)=some (.val (.tup []),rr (.sl nl cl (L.map Tok.c)) i2 d2 T e2 b2)) ∨
   (beqL w [40]=true∧d2=d1∧Om CC 104 [.box 0 0,.t (.str [40])] (rr (.sl nl cl (L.map Tok.c)) (i+1) d1 T e1 b1)=some (.val (.tup []),rr (.sl nl cl (L.map Tok.c)) i2 d2 T e2 b2)))∧(i+1≤i2∧i2≤L.length):=by
  cases hq:beqL w [40] with
  |true =>
   obtain⟨i3,e3,b3,hm3,g3,g4,-⟩:=zEb nl cl L (i+1) d1 T e1 b1 [40] (by simp) (by omega) hL;exact⟨i3,d1,e3,b3,.inr ⟨rfl,rfl,hm3⟩,g3,g4⟩
  |false =>
   obtain⟨i2,e2,b2,hm2,g3,g4,-⟩:=zEb nl cl L (i+1) d T e b [40] (by simp) (by omega) hL;exact⟨i2,d,e2,b2,.inl ⟨rfl,rfl,hm2⟩,g3,g4⟩
 obtain⟨i2,d2,e2,b2,hst,g3,g4⟩:=hst;have hwi:=wI64 i (by omega);obtain⟨p1,p2⟩:=p;dsimp only at hp;obtain⟨x0,hx0⟩:∃x0:RCl,Hid (x0=⟨none,i2,d2,T,e2,b2⟩):=⟨_,⟨rfl⟩⟩;have hinit:Hid (RCp L.length i T x0):=⟨by rw[hx0.h];exact⟨g3,g4,by dsimp only;omega,by cases T<;>simp,hl⟩⟩
 have hz:Hid _:=⟨And.intro hi (And.intro hT hm)⟩
 generalize hll:Tree.sl nl cl (L.map Tok.c)=l at *;have hll2:Hid _:=⟨hll⟩
 clear hi hT hl hm g3 g4 hll;obtain⟨H0,hH0⟩:∃H0:Nat→Heap,Hid (H0=rcH l i2 d2 T e2 b2 op p1 p2):=⟨_,⟨rfl⟩⟩;obtain⟨k0,hk0⟩:∃k0:Nat,Hid (k0=rcK T):=⟨_,⟨rfl⟩⟩
 (have F_:=c5 zF zG zE zD (c5 zC zT zL zQ (c5 zU zR zK zAl (c5 zAk zM yF2 zHm (c5 zFP zGY zEZ zFL (c2 zCZ zHo))))))
 rcases T with _|E
 all_goals
  simp only[rr,rrT,rrR] at hp hw hde hst ⊢;refine zBa zZF rfl ?_
  (simp only[zP,List.length_cons,List.length_nil,Nat.zero_add,Nat.reduceAdd];show W CC _ 93 (zA 103) _ _ _)
  refine zAi (zAi (zAi (zAi (zBg (W.mono (Q:=yC3 k0 least most H0) ?_ ?_)))))
  ·rcases hst with ⟨hq,rfl,hst⟩|⟨hq,rfl,hst⟩
   all_goals (repeat' first|refine gA ?_|refine gT ?_ ?_<;>intro hv<;>try cases hv;done|fail)<;>(rw[hH0.h,hk0.h];first|exact⟨rfl,0,rfl,rfl,rfl,rfl,rfl,rfl⟩|exact⟨rfl,_,rfl,rfl,rfl,rfl,rfl,rfl⟩)
  rintro e ⟨T9,h9⟩ ⟨rfl,v9,hh,g0,g2,g3,g9,gN⟩;rw[hH0.h] at hh;rw[hk0.h] at g9;simp only[rcH,rcK] at hh g0 g2 g3 g9 gN;subst hh;clear hp hw hde hst hwi hH0 hk0;have v1:Nat.beq v9 v9=true:=Nat.beq_refl v9;have v2:decide (v9=v9)=true:=decide_eq_true rfl
  (repeat' first|refine gA ?_|refine gT ?_ ?_<;>intro hv<;>try cases hv;done|fail)
  refine zW (α:=RCl) (fun x=>⟨[(0,.box 0 0),(2,.t (.int .i64 least)),(3,.t (.int .i64 most)),(9,clB x.T)],clH l op p1 p2 x⟩) (fun x=>L.length - x.i) (fun x=>RCp L.length i _ x∧(kc x.K).length≤x.i∧lens 1 (kc x.K)=true) x0 (by rw[hx0.h];simp only[clB,clH,clK,clA,rr,rrT,rrR,List.cons_append,List.nil_append,List.append_nil];(have X_:=c5 @g0 @g2 @g3 @g9 (c3 @gN @v1 @v2);exact aTdX)) ⟨hinit.h,by rw[hx0.h];simp [kc],by rw[hx0.h];rfl⟩ ?_;clear hinit hx0 g0 g2 g3 g9 gN v1 v2
  all_goals rintro⟨K,j,d,T,e,b⟩ ⟨hx,hkl,hkn⟩<;>dsimp only at hkl hkn<;>(obtain⟨a1,i1,d1,T1,e1,b1,w,e3,b3,hex,hnx,hst,he3,hw44,hwi,hji,hTT,hY⟩:=zPi hL ih hz.h.2.1 hz.h.2.2 hz.h.1 hx)<;>(obtain⟨i2,e2,b2,a2,E2,hm0,hp0,kr0⟩:=zHE nl cl hL op p1 p2 hz.h.2.1 hx K)<;>(obtain⟨i4,e4,b4,a4,E4,hm1,hp1,kr1⟩:=zHE nl cl hL op p1 p2 hz.h.2.1 (hY none).1 (some (kc K++[[.int .i64 a1]])))<;>(obtain⟨i5,e5,b5,a5,E5,hm2,hp2,kr2⟩:=zHE nl cl hL op p1 p2 hz.h.2.1 (hY none).2 (some (kc K++[[.int .i64 a1]])))<;>(have hkr:Hid _:=⟨And.intro kr0 (And.intro kr1 kr2)⟩)<;>(have hxn:=hx.nn)<;>(have hag:Hid _:=⟨And.intro hw44 (And.intro hji (And.intro hkl (And.intro (hY none).1 (And.intro (zRz (a:=a1) hkn) hx.hi))))⟩)<;>(have hK:∀E,K=some E→lens 1 E=true∧decide (E.length+1<4294967296)=true:=fun E hE=>(by subst hE;have h1:=hx.hi;dsimp only at h1;simp only[kc] at hkl hkn;exact⟨hkn,by rw[decide_eq_true_eq];omega⟩))<;>rw[hll2.h] at hex hnx hst hm0 hp0 hm1 hp1 hm2 hp2<;>clear kr0 kr1 kr2 hw44 hji hkl hx hY hkn<;>rcases T with _|E0<;>(first|(rcases hxn with h|h;cases h;exact absurd rfl h)|skip)<;>rcases T1 with _|E1<;>(first|(rcases hTT with h|h;cases h;exact absurd rfl h)|skip)<;>clear hTT hxn<;>rcases K with _|EK<;>(first|(obtain⟨hkn,hkn2⟩:=hK _ rfl;clear hK)|clear hK)<;>simp only[rr,rrT,rrR,kb,kc,List.nil_append] at hex hnx hst hm0 hp0 hm1 hp1 hm2 hp2<;>simp only[clB,clH,clK,clA,rr,rrT,rrR,List.cons_append,List.nil_append,List.append_nil]<;>(have zz1:decide (2+(1 - 1)<2)=false:=by decide)<;>(have zz2:decide (3+(1 - 1)<3)=false:=by decide)<;>(repeat' first|refine gA ?_|refine gT ?_ ?_<;>intro hv<;>try cases hv;done|fail)
  all_goals first
   |exact zB (⟨some (EK++[[Tree.int .i64 a1]]),i1+1,d1,_,e1,b1⟩:RCl) (by have:=hag.h.1 (by assumption);have:=hag.h.2.1;dsimp only;omega) ⟨⟨by have:=hag.h.2.2.2.1.lo;dsimp only at this ⊢;omega,by have:=hag.h.1 (by assumption);dsimp only;omega,by have:=hag.h.2.2.2.1.nd;dsimp only at this ⊢;omega,hag.h.2.2.2.1.nn,hag.h.2.2.2.1.ln⟩,by have k1:EK.length≤j:=hag.h.2.2.1;have:=hag.h.2.1;simp only[kc,List.length_append,List.length_cons,List.length_nil];omega,hag.h.2.2.2.2.1⟩ (by simp only[clB,clH,clK,clA,rr,rrT,rrR,List.cons_append,List.nil_append,List.append_nil];exact aTd)
   |exact zB (⟨some [[Tree.int .i64 a1]],i1+1,d1,_,e1,b1⟩:RCl) (by have:=hag.h.1 (by assumption);have:=hag.h.2.1;dsimp only;omega) ⟨⟨by have:=hag.h.2.2.2.1.lo;dsimp only at this ⊢;omega,by have:=hag.h.1 (by assumption);dsimp only;omega,by have:=hag.h.2.2.2.1.nd;dsimp only at this ⊢;omega,hag.h.2.2.2.1.nn,hag.h.2.2.2.1.ln⟩,by have:=hag.h.2.2.1;have:=hag.h.2.1;simp only[kc,List.length_append,List.length_cons,List.length_nil] at this ⊢;omega,hag.h.2.2.2.2.1⟩ (by simp only[clB,clH,clK,clA,rr,rrT,rrR,List.cons_append,List.nil_append,List.append_nil];exact aTd)
   |((refine aM ?_);exact⟨_,_,_,some E2,_,_,⟨rfl,rfl⟩,hkr.h.1⟩)
   |((refine aM ?_);exact⟨_,_,_,some E4,_,_,⟨rfl,rfl⟩,hkr.h.2.1⟩)
   |((refine aM ?_);exact⟨_,_,_,some E5,_,_,⟨rfl,rfl⟩,hkr.h.2.2⟩)
   |(trace_state;fail)
end Go.Ab
