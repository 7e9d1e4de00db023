/- Lemmas. -/
import Derived.Test.YtdbfacakphncfaaGreatDoorG31
set_option maxRecDepth 1000000
set_option maxHeartbeats 40000000
set_option linter.all false
namespace Go.Ab
open Go.Proofs
attribute [local irreducible] W RW RR
theorem KR.refl{n i:Nat}{T:Option (List (List Tree))}(hi:i≤n)(hl:rrL T):KR n i 0 T i T:=⟨Nat.le_refl _,hi,by omega,by cases T<;>simp,hl⟩
def zEN {l:Tree} {n i:Nat} {d:Int} {T:Option (List (List Tree))} {e:Int} {b:Nat} (op k v:Int) (s name:List Nat) (line col:Int) (hi:i<n) (hn:n<1000000) (hT:rrN T≤i) (hl:rrL T) :
  ∃(a:Int) (E:List (List Tree)),Om CC 64 [.box 0 0,.t (.agg [.int .u8 op,.int .u8 k,.int .i64 v,.str s,.str name,.sl true true [],.int .i64 line,.int .i64 col])] (rr l (i+1) d T e b)=some (.val (.t (.int .i64 a)),rr l (i+1) d (some E) e b)∧KR n i 0 T (i+1) (some E):=by
 obtain⟨a,E,h,h1,h2⟩:=zJy l (i+1) d T e b op k v s name true true [] line col (by omega) hl;exact⟨a,E,h,by omega,hi,by rw[show rrN (some E)=E.length from rfl];omega,.inr (by simp),zJ2 h2⟩
def zRi {nl cl:Bool} {L:List Tok} (hL:L.length<1000000) {m:Nat} (ih:RE nl cl L m) (i:Nat) (d:Int) (T:Option (List (List Tree))) (e:Int) (b:Nat) (hi:i<L.length) (hT:rrN T≤i) (hl:rrL T) (hm:9 * (L.length - i)≤m+1) :
  ∃(i2:Nat) (e2:Int) (b2:Nat) (a:Int) (i3:Nat) (d3:Int) (T3:Option (List (List Tree))) (e3:Int) (b3:Nat) (i4:Nat) (e4:Int) (b4:Nat),Om CC 104 [.box 0 0,.t (.str [40])] (rr (.sl nl cl (L.map Tok.c)) i d T e b)=some (.val (.tup []),rr (.sl nl cl (L.map Tok.c)) i2 d T e2 b2) ∧
   Om CC 33 [.box 0 0,.t (.int .i64 0)] (rr (.sl nl cl (L.map Tok.c)) i2 d T e2 b2)=some (.val (.t (.int .i64 a)),rr (.sl nl cl (L.map Tok.c)) i3 d3 T3 e3 b3) ∧
   Om CC 104 [.box 0 0,.t (.str [41])] (rr (.sl nl cl (L.map Tok.c)) i3 d3 T3 e3 b3)=some (.val (.tup []),rr (.sl nl cl (L.map Tok.c)) i4 d3 T3 e4 b4)∧KR L.length i 0 T i4 T3:=by
 obtain⟨i2,e2,b2,h1,g1,g2,g3⟩:=zEb nl cl L i d T e b [40] (by simp) (by omega) hL;obtain⟨a,i3,d3,T3,e3,b3,h2,k1,k2,k3,k4,k5⟩:=ih 0 i2 d T e2 b2 (by omega) g2 (by omega) hl (fun h=>by have:=g3 h;omega);obtain⟨i4,e4,b4,h3,f1,f2,-⟩:=zEb nl cl L i3 d3 T3 e3 b3 [41] (by simp) k2 hL;exact⟨i2,e2,b2,a,i3,d3,T3,e3,b3,i4,e4,b4,h1,h2,h3,by omega,f2,by omega,k4,k5⟩
def xbE:=c5 zF zG zE zD (c5 zC zT zL zQ (c5 zU zR zK zAl (c5 zAk zM zNz zHm (c5 zFP zGY zEZ zFL (c3 zCZ zHo (c2 zF6 zLs))))))
def zSj (nl cl:Bool) (L:List Tok) (hL:L.length<1000000) (m:Nat) (ih:RE nl cl L m) (i:Nat) (d:Int) (T:Option (List (List Tree))) (e:Int) (b:Nat) (hi:i≤L.length) (hT:rrN T≤i) (hl:rrL T) (hm:9 * (L.length - i)≤m+1) :
  ∃a i' d' T' e' b',Om CC 60 [.box 0 0] (rr (.sl nl cl (L.map Tok.c)) i d T e b)=some (.val (.t (.int .i64 a)),rr (.sl nl cl (L.map Tok.c)) i' d' T' e' b')∧KR L.length i 0 T i' T':=by
 obtain⟨e4,b4,hst,-⟩:=zFi (.sl nl cl (L.map Tok.c)) i d T e b 4;have hkr0:Hid (KR L.length i 0 T i T):=⟨KR.refl hi hl⟩
 by_cases hi':i<L.length
 ·obtain⟨t,ht⟩:∃t,L[i]?=some t:=⟨_,List.getElem?_eq_getElem hi'⟩;have hTk:=wD ht;have hd:decide ((i:Int) ≥ ((L.map Tok.c).length:Int))=false:=decide_eq_false (by rw[List.length_map];omega);have hwi:=wI64 i (by omega);obtain⟨k,s,⟨vk,vn,vs⟩,tl,tc⟩:=t;dsimp only at hTk
  by_cases hk:k=1
  ·subst hk;have k2:((1:Int)==2)=false:=rfl;have k3:((1:Int)==3)=false:=rfl;have k4:((1:Int)==4)=false:=rfl;have k5:((1:Int)==5)=false:=rfl;have k6:((1:Int)==6)=false:=rfl;have k1:((1:Int)==1)=true:=rfl;obtain⟨⟨op,least,most⟩,hC,-⟩:=zTH s;dsimp only at hC;obtain⟨aT,ET,hpT,krT⟩:=zEN (l:=.sl nl cl (L.map Tok.c)) (d:=d) (e:=e) (b:=b) 1 4 1 [] [] tl tc hi' hL hT hl;obtain⟨aF,EF,hpF,krF⟩:=zEN (l:=.sl nl cl (L.map Tok.c)) (d:=d) (e:=e) (b:=b) 1 4 0 [] [] tl tc hi' hL hT hl;obtain⟨aN,EN,hpN,krN⟩:=zEN (l:=.sl nl cl (L.map Tok.c)) (d:=d) (e:=e) (b:=b) 1 0 0 [] [] tl tc hi' hL hT hl;obtain⟨aC,iC,dC,TC,eC,bC,hcall,krC⟩:=zTK nl cl L hL m ih op least most i d T e b hi' hT hl hm;have hnn:=krC.nn;have hkr:Hid _:=⟨And.intro krT (And.intro krF (And.intro krN krC))⟩
   generalize L.map Tok.c=l at *;clear krT krF krN krC hi hT hl hm hi' ht
   (have F_:=xbE)
   rcases T with _|E0<;>rcases TC with _|EC
   all_goals (first|(rcases hnn with h|h;cases h;exact absurd rfl h)|skip)<;>clear hnn<;>simp only[rr,rrT,rrR] at hst hpT hpF hpN hcall ⊢<;>refine zBa zJ7 rfl ?_<;>(simp only[zP,List.length_cons,List.length_nil,Nat.zero_add,Nat.reduceAdd];show W CC _ 115 (zA 60) _ _ _)<;>(repeat' first|refine gA ?_|refine gT ?_ ?_<;>intro hv<;>try cases hv;done|fail)<;>refine aM ?_
   all_goals first
    |exact⟨_,_,_,some ET,_,_,⟨rfl,rfl⟩,hkr.h.1⟩
    |exact⟨_,_,_,some EF,_,_,⟨rfl,rfl⟩,hkr.h.2.1⟩
    |exact⟨_,_,_,some EN,_,_,⟨rfl,rfl⟩,hkr.h.2.2.1⟩
    |exact⟨_,_,_,some EC,_,_,⟨rfl,rfl⟩,hkr.h.2.2.2⟩
    |exact⟨_,_,_,none,_,_,⟨rfl,rfl⟩,hkr.h.2.2.2⟩
    |exact⟨_,_,_,none,_,_,⟨rfl,rfl⟩,hkr0.h⟩
    |exact⟨_,_,_,some E0,_,_,⟨rfl,rfl⟩,hkr0.h⟩
  have k1:(k==1)=false:=by simpa using hk
  by_cases hk2:k=2∨k=3∨k=4∨k=5∨k=6
  ·obtain⟨aV,EV,hpV,krV⟩:=zEN (l:=.sl nl cl (L.map Tok.c)) (d:=d) (e:=e) (b:=b) 2 0 0 [] s tl tc hi' hL hT hl;obtain⟨aS,ES,hpS,krS⟩:=zEN (l:=.sl nl cl (L.map Tok.c)) (d:=d) (e:=e) (b:=b) 3 0 0 [] [] tl tc hi' hL hT hl;obtain⟨aL,EL,hpL,krL⟩:=zEN (l:=.sl nl cl (L.map Tok.c)) (d:=d) (e:=e) (b:=b) 1 vk vn vs [] tl tc hi' hL hT hl;have hkr:Hid _:=⟨And.intro krV (And.intro krS krL)⟩
   have hkk:(k==2)=true∨((k==2)=false∧(k==3)=true)∨((k==2)=false∧(k==3)=false∧((k==4)=true∨((k==4)=false∧((k==5)=true∨((k==5)=false∧(k==6)=true))))):=by
    rcases hk2 with rfl|rfl|rfl|rfl|rfl<;>simp
   generalize L.map Tok.c=l at *;clear krV krS krL hi hT hl hm hi' ht hk2 hk
   (have F_:=xbE)
   rcases hkk with k2|⟨k2,k3⟩|⟨k2,k3,k4|⟨k4,k5|⟨k5,k6⟩⟩⟩<;>rcases T with _|E0
   all_goals simp only[rr,rrT,rrR] at hst hpV hpS hpL ⊢<;>refine zBa zJ7 rfl ?_<;>(simp only[zP,List.length_cons,List.length_nil,Nat.zero_add,Nat.reduceAdd];show W CC _ 115 (zA 60) _ _ _)<;>(repeat' first|refine gA ?_|refine gT ?_ ?_<;>intro hv<;>try cases hv;done|fail)<;>refine aM ?_
   all_goals first
    |exact⟨_,_,_,some EV,_,_,⟨rfl,rfl⟩,hkr.h.1⟩
    |exact⟨_,_,_,some ES,_,_,⟨rfl,rfl⟩,hkr.h.2.1⟩
    |exact⟨_,_,_,some EL,_,_,⟨rfl,rfl⟩,hkr.h.2.2⟩
  have k2:(k==2)=false:=by simp;omega
  have k3:(k==3)=false:=by simp;omega
  have k4:(k==4)=false:=by simp;omega
  have k5:(k==5)=false:=by simp;omega
  have k6:(k==6)=false:=by simp;omega
  obtain⟨w,hn,-⟩:=zBH nl cl L i d T e b;obtain⟨d1,e1,b1,hde,-⟩:=zHP (.sl nl cl (L.map Tok.c)) i d T e b;have hq:(beqL w [40]=true∨beqL w [40]=false):=by cases beqL w [40]<;>simp
  have hpar:∃(dx ex:Int) (bx:Nat),(beqL w [40]=true∧dx=d1∧ex=e1∧bx=b1∨beqL w [40]=false∧dx=d∧ex=e∧bx=b):=by
   rcases hq with h|h
   ·exact⟨d1,e1,b1,.inl ⟨h,rfl,rfl,rfl⟩⟩
   exact⟨d,e,b,.inr ⟨h,rfl,rfl,rfl⟩⟩
  obtain⟨dx,ex,bx,hpar⟩:=hpar;obtain⟨i2,e2,b2,a,i3,d3,T3,e3,b3,i5,e5,b5,h1,h2,h3,kr⟩:=zRi hL ih i dx T ex bx hi' hT hl hm;have hnn:=kr.nn;have hkr:Hid _:=⟨kr⟩
  generalize L.map Tok.c=l at *;clear kr hi hT hl hm hi' ht hk2 hk hq
  (have F_:=xbE)
  rcases hpar with ⟨hq,rfl,rfl,rfl⟩|⟨hq,rfl,rfl,rfl⟩<;>rcases T with _|E0<;>rcases T3 with _|E3
  all_goals (first|(rcases hnn with h|h;cases h;exact absurd rfl h)|skip)<;>clear hnn<;>simp only[rr,rrT,rrR] at hn hde h1 h2 h3 hst ⊢<;>refine zBa zJ7 rfl ?_<;>(simp only[zP,List.length_cons,List.length_nil,Nat.zero_add,Nat.reduceAdd];show W CC _ 115 (zA 60) _ _ _)<;>(repeat' first|refine gA ?_|refine gT ?_ ?_<;>intro hv<;>try cases hv;done|fail)<;>refine aM ?_
  all_goals first
   |exact⟨_,_,_,some E3,_,_,⟨rfl,rfl⟩,hkr.h⟩
   |exact⟨_,_,_,none,_,_,⟨rfl,rfl⟩,hkr.h⟩
 have hd:decide ((i:Int) ≥ ((L.map Tok.c).length:Int))=true:=decide_eq_true (by rw[List.length_map];omega);generalize L.map Tok.c=l at *;clear hi hT hl hm hi'
 (have F_:=xbE)
 rcases T with _|E0
 all_goals simp only[rr,rrT,rrR] at hst ⊢<;>refine zBa zJ7 rfl ?_<;>(simp only[zP,List.length_cons,List.length_nil,Nat.zero_add,Nat.reduceAdd];show W CC _ 115 (zA 60) _ _ _)<;>(repeat' first|refine gA ?_|refine gT ?_ ?_<;>intro hv<;>try cases hv;done|fail)<;>refine aM ?_
 all_goals first
  |exact⟨_,_,_,none,_,_,⟨rfl,rfl⟩,hkr0.h⟩
  |exact⟨_,_,_,some E0,_,_,⟨rfl,rfl⟩,hkr0.h⟩
end Go.Ab
