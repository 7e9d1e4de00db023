/- Lemmas. -/
import Derived.Test.YtdbfacakphncfaaGreatDoorG08
set_option maxRecDepth 1000000
set_option maxHeartbeats 40000000
set_option linter.all false
namespace Go.Ab
open Go.Proofs
attribute [local irreducible] W RW RR
def zXj {nl cl:Bool} {L:List Tok} {i d:Nat} {T:List Node} {op:Int} {least ha:Nat} {p:Int×Int} (hi:i<9223372036854775806) (hw:isW L (i+1) [40]=false) :
  Om CC 258 [.box 0 0,.t (.agg [.int .u8 op,.int .i64 (least:Int),.int .i64 (ha:Int)]),.t (.agg [.int .i64 p.1,.int .i64 p.2])] (rd (.sl nl cl (L.map Tok.c)) i d T)=some ((RX.pan 4 (i+1) d T).o (.sl nl cl (L.map Tok.c))):=by
 have h1:=qP nl cl L (i+1) d T [40];have h2:=zHx nl cl L (i+1) d T [40] hw;rw[hw] at h1;clear hw;have h4:=wI64 i (by omega);generalize Tree.sl nl cl (L.map Tok.c)=l at *
 (have F_:=c5 zF zG zP zE (c5 zC zB zO zK (c5 zV zU zM zI (c5 yM yL wP kF (c3 zO9 vA zAr)))))
 rcases T with _|⟨t0,T0⟩
 all_goals simp only[RX.o,rd,rdT,rdR,xD] at h1 h2 ⊢<;>(try generalize (t0::T0).map Node.c=E0 at *)<;>refine xZ zMJ rfl ?_<;>(simp only[zT,List.length_cons,List.length_nil,Nat.zero_add,Nat.reduceAdd];show W CC _ 74 (zA 258) _ _ _)<;>(refine gA ?_)<;>(first|(refine aJ ?_;rfl)|(refine aM ?_;rfl))
def zSq {nl cl:Bool} {L:List Tok} {i:Nat} {T:List Node} {op:Int} {least ha:Nat} {p:Int×Int} (hi:i<9223372036854775806) (hw:isW L (i+1) [40]=true) :
  Om CC 258 [.box 0 0,.t (.agg [.int .u8 op,.int .i64 (least:Int),.int .i64 (ha:Int)]),.t (.agg [.int .i64 p.1,.int .i64 p.2])] (rd (.sl nl cl (L.map Tok.c)) i 12 T)=some ((RX.pan 12 (i+1) 12 T).o (.sl nl cl (L.map Tok.c))):=by
 have h1:=qP nl cl L (i+1) 12 T [40];have h2:=zKI (.sl nl cl (L.map Tok.c)) (i+1) T;rw[hw] at h1;clear hw;have h4:=wI64 i (by omega);generalize Tree.sl nl cl (L.map Tok.c)=l at *
 (have F_:=c5 zF zG zP zE (c5 zC zB zO zK (c5 zV zU zM zI (c5 yM yL wP kF (c3 zO9 vA kG)))))
 rcases T with _|⟨t0,T0⟩
 all_goals simp only[RX.o,rd,rdT,rdR,xD] at h1 h2 ⊢<;>(try generalize (t0::T0).map Node.c=E0 at *)<;>refine xZ zMJ rfl ?_<;>(simp only[zT,List.length_cons,List.length_nil,Nat.zero_add,Nat.reduceAdd];show W CC _ 74 (zA 258) _ _ _)<;>(refine gA ?_)<;>(first|(refine aJ ?_;rfl)|(refine aM ?_;rfl))
structure CallI where
 g:Nat
 i:Nat
 T:List Node
 K:List Int
def cxK:List Int→AV
 |[]=>.t (.sl true true [])
 |_::_=>.hs 4 0
def cxA:List Int→Heap
 |[]=>[]
 |k::K=>[.arr 1 0 false ((k::K).map intC)]
def cxN:List Node→Nat
 |[]=>1
 |_::_=>2
def cxS(l:Tree)(op:Int)(least ha:Nat)(p:Int×Int)(d:Nat)(x:CallI):St :=
 ⟨[(0,.box 0 0),(4,.box (cxN x.T) 0),(5,.box (cxN x.T+1) 0),(7,cxK x.K)],rd l x.i d x.T++([.box [.t (.int .u8 op),.t (.int .i64 (least:Int)),.t (.int .i64 (ha:Int))],.box [.t (.int .i64 p.1),.t (.int .i64 p.2)]]++cxA x.K)⟩
structure CxP (L:List Tok) (f:Nat) (op:Int) (least ha:Nat) (p:Int×Int) (d:Nat) (r:RX) (T0:List Node) (x:CallI):Prop where
 h:PX L x.g (.call op least ha x.K p) x.i d x.T=some r
 hg:x.g≤f
 hi:x.i≤L.length
 hB:x.T.length+(L.length - x.i)≤4000000000
 hK:x.K.length+(L.length - x.i)≤4000000000
 hT:x.T=[]→x.K=[]∧T0=[]
def zV5 {L:List Tok} {f:Nat} {op:Int} {least ha:Nat} {p:Int×Int} {d:Nat} {r:RX} {T0:List Node} {x:CallI} (hd:d+1≤12) (hx:CxP L f op least ha p (d+1) r T0 x) :
  ∃g rr,g<x.g∧PX L g (.lev 0) x.i (d+1) x.T=some rr∧((∃e i d T,rr=.pan e i d T∧r=rr∧(T=[]→x.T=[])) ∨
   ∃a i t R,rr=.ok a i (d+1) (t::R)∧((isW L i [44]=true∧isW L i [41]=false∧(x.K.length+1==ha)=true∧r=.pan 14 i (d+1) (t::R)) ∨
    (isW L i [44]=true∧isW L i [41]=false∧(x.K.length+1==ha)=false∧i<L.length∧CxP L f op least ha p (d+1) r T0 ⟨g,i+1,t::R,x.K++[(a:Int)]⟩) ∨
    (isW L i [44]=false∧isW L i [41]=true∧Nat.blt (x.K.length+1) least=true∧r=.pan 14 i (d+1) (t::R)) ∨
    (isW L i [44]=false∧isW L i [41]=true∧Nat.blt (x.K.length+1) least=false∧i<L.length∧(t::R).length<4294967295∧r=.ok (t::R).length (i+1) d (t::R++[xL op VZ [] (x.K++[(a:Int)]) p])) ∨
    (isW L i [44]=false∧isW L i [41]=false∧r=.pan 4 i (d+1) (t::R)))):=by
 obtain⟨g,i,T,K⟩:=x;obtain⟨h,hg,hi,hB,hK,hT⟩:=hx;dsimp only at *;rcases g with _|g
 ·simp [PX] at h
 rw[PX] at h;cases hh:PX L g (.lev 0) i (d+1) T with
 |none=>rw[hh] at h;cases h
 |some rr =>
  have hk:=xO _ _ _ _ _ _ hh hi hd trivial;have hH:=zAV _ _ _ _ _ _ hh;rw[hh] at h;refine⟨g,rr,Nat.lt_succ_self g,hh,?_⟩;cases rr with
  |pan e i2 d2 T2 =>
   cases h;exact .inl ⟨e,i2,d2,T2,rfl,rfl,fun h=>List.length_eq_zero_iff.1 (by rw[h] at hH;exact Nat.le_zero.1 hH)⟩
  |ok a i2 d3 T2 =>
   dsimp only at h;obtain⟨k1,k2,k3,k4,k5⟩:=hk;simp only[Cmd.dt] at k3;subst k3;rcases T2 with _|⟨t2,R2⟩
   ·exact absurd k5 (by simp)
   refine .inr ⟨a,i2,t2,R2,rfl,?_⟩;have hP:=@wZ L i2 [44] [41];have hQ:(K++[(a:Int)]).length=K.length+1:=by simp
   have hu:=@zY L i2;rw[hQ] at h;cases hz:isW L i2 [44] with
   |true =>
    have ho:=hP hz (by decide);have:=hu hz;rw[hz,ho] at h;cases hq:(K.length+1==ha) with
    |true=>rw[hq,if_pos (by simp)] at h;cases h;exact .inl ⟨rfl,ho,rfl,rfl⟩
    |false=>rw[hq,if_neg (by simp),if_pos rfl] at h;exact .inr (.inl ⟨rfl,ho,rfl,this,h,by dsimp only;omega,by dsimp only;omega,by dsimp only;omega,by dsimp only;omega,fun h=>by cases h⟩)
   |false =>
    rw[hz] at h;cases ho:isW L i2 [41] with
    |true =>
     have:=hu ho;rw[ho] at h;cases hq:Nat.blt (K.length+1) least with
     |true=>rw[hq,if_pos (by simp)] at h;cases h;exact .inr (.inr (.inl ⟨rfl,rfl,rfl,rfl⟩))
     |false=>rw[hq,if_neg (by simp),if_neg (by simp),if_pos rfl,Nat.add_sub_cancel] at h;cases h;exact .inr (.inr (.inr (.inl ⟨rfl,rfl,rfl,this,by omega,rfl⟩)))
    |false=>rw[ho,if_neg (by simp),if_neg (by simp),if_neg (by simp)] at h;cases h;exact .inr (.inr (.inr (.inr ⟨rfl,rfl,rfl⟩)))
def zXo {nl cl:Bool} {L:List Tok} {i0 d2' f:Nat} {T:List Node} {r:RX} {op:Int} {least ha:Nat} {p:Int×Int} (hL:L.length<4000000000) (hR:LevH nl cl L 0 f) (h:PX L f (.call op least ha [] p) (i0+2) (d2'+1) T=some r) (hw:isW L (i0+1) [40]=true)
  (hi:i0+2≤L.length) (hd:d2'<12) (hB:T.length+(L.length - (i0+2))≤4000000000) :
  Om CC 258 [.box 0 0,.t (.agg [.int .u8 op,.int .i64 (least:Int),.int .i64 (ha:Int)]),.t (.agg [.int .i64 p.1,.int .i64 p.2])] (rd (.sl nl cl (L.map Tok.c)) i0 d2' T)=some (r.o (.sl nl cl (L.map Tok.c))):=by
 have h1:=qP nl cl L (i0+1) d2' T [40];have h2:=zDV (.sl nl cl (L.map Tok.c)) (i0+1) d2' T hd;have h3:=zDE nl cl L (i0+1) (d2'+1) T [40] (by omega) hw;rw[hw] at h1;clear hw;have h4:=wI64 i0 (by omega);generalize hl:Tree.sl nl cl (L.map Tok.c)=l at *;have hd:d2'+1≤12:=hd;generalize hS:i0+2=i at *;have hD:i0+1+1=i:=by omega
 have hf:Hid (CxP L f op least ha p (d2'+1) r T ⟨f,i,T,[]⟩):=⟨⟨h,Nat.le_refl f,hi,hB,by simp only[List.length_nil];omega,fun h=>⟨rfl,h⟩⟩⟩
 clear h hi hB
 (have F_:=c5 zF zG zP zE (c5 zC zB zO zK (c5 zV zU zM zI (c5 yM yL wP kF (c5 zO9 vA kG zAr (c2 qH jC))))))
 rcases T with _|⟨t0,R0⟩
 all_goals
  simp only[rd,rdT,rdR] at h1 h2 h3 ⊢;refine xZ zMJ rfl ?_
  (simp only[zT,List.length_cons,List.length_nil,Nat.zero_add,Nat.reduceAdd];show W CC _ 74 (zA 258) _ _ _)
  try generalize hU:(t0::R0).map Node.c=E0 at *
  (refine gA ?_)
  clear h1 h2 h3 hS hD h4
  try subst hU
  refine yE (cxS l op least ha p (d2'+1)) (fun x=>x.g) (CxP L f op least ha p (d2'+1) r _) ⟨f,i,_,[]⟩ (by simp only[cxS,cxN,cxK,cxA,RX.o,rd,rdT,rdR,xD,List.cons_append,List.nil_append,List.append_nil,List.map_nil,List.length_nil,Nat.zero_add,Nat.reduceAdd];exact aTd) hf.h ?_;clear hf;rintro⟨g',i,T,K⟩ hx;obtain⟨g,rr,hE,hh,hc⟩:=zV5 hd hx;have hp:=hR g (by have:=hx.hg;dsimp only at *;omega) i (d2'+1) T rr hh hx.hi hd hx.hB;rw[hl] at hp;have hj:Om CC 186 [.box 0 0,.t (.int .i64 0)] (rd l i (d2'+1) T)=some (rr.o l):=hp;have ht:=hx.hT;have hI:=hx.hK;dsimp only at hE hh hc ht hI;have hF:=Hid.mk hE;have hV:decide ((K.map intC).length+1<4294967296)=true:=by(rw[decide_eq_true_eq,List.length_map];omega)
  have hv:lens 1 (K.map intC)=true:=by unfold lens;rw[List.all_map];exact List.all_eq_true.2 fun x _=>rfl
  clear hp hI hx hh hE;rcases hc with ⟨e,i2,d2,T2,rfl,rfl,hJ⟩|⟨a,i2,t2,R2,rfl,hc⟩
  ·rcases T with _|⟨t,R⟩<;>rcases T2 with _|⟨t2,R2⟩<;>rcases K with _|⟨k,K⟩
   all_goals first|(cases hJ rfl;done)|(cases (ht rfl).1;done)|(cases (ht rfl).2;done)|skip
   all_goals
    clear ht hJ;simp only[cxS,cxN,cxK,cxA,RX.o,rd,rdT,rdR,xD,List.cons_append,List.nil_append,List.append_nil,List.map_nil,List.length_nil,Nat.zero_add,Nat.reduceAdd] at hj ⊢
    try generalize (t::R).map Node.c=E0 at *
    try generalize (t2::R2).map Node.c=E1 at *
    try generalize (k::K).map intC=EK at *
    (refine gA ?_)
    refine aM ?_
    rfl
  have hb:=qP nl cl L i2 (d2'+1) (t2::R2) [44];have he:=qP nl cl L i2 (d2'+1) (t2::R2) [41];have e1:=zBf (K.length+1) ha;have e2:=yGN (K.length+1) least;have hm:Hid _:=⟨And.intro (zHx nl cl L i2 (d2'+1) (t2::R2) [41]) (zDE nl cl L i2 (d2'+1) (t2::R2) [41])⟩
  have hy:(K++[(a:Int)]).map intC=K.map intC++[[.int .i64 (a:Int)]]:=by rw[List.map_append];rfl
  have hA:Hid _:=⟨zBO l (i2+1) d2' (t2::R2) op 0 0 [] [] (.sl true true []) ⟨false,false,K++[(a:Int)]⟩ p.1 p.2⟩
  have hN:xL op VZ [] (K++[(a:Int)]) p=⟨op,⟨0,0,[]⟩,[],⟨false,false,K++[(a:Int)]⟩,p.1,p.2⟩:=by unfold xL;rw[if_neg (by simp)];rfl
  have hW:(K.map intC++[[Tree.int .i64 (a:Int)]]).length=K.length+1:=by simp
  have hZ:IntKind.i64.wrap (((d2'+1:Nat):Int) - 1)=(d2':Int):=by rw[wrap64]<;>omega
  rw[hl] at hb he hm;rw[hN] at hc;simp only[Sl.t,hy] at hA;generalize (⟨op,⟨0,0,[]⟩,[],⟨false,false,K++[(a:Int)]⟩,p.1,p.2⟩:Node)=N at hA hc;have hy:=Hid.mk hy;clear hN;rcases hc with ⟨q1,q2,q3,rfl⟩|⟨q1,q2,q3,hu,hC⟩|⟨q1,q2,q3,rfl⟩|⟨q1,q2,q3,hu,hM,rfl⟩|⟨q1,q2,rfl⟩
  all_goals
   rw[q1] at hb;rw[q2] at he
   try rw[q3] at e1
   try rw[q3] at e2
   try have hX:=hm.h.1 q2
   try have hY:=hm.h.2 (by omega) q2
   try have hn:=hA.h hM
   try have h0:=wI64 i2 (by omega)
   try have hC:=Hid.mk hC
   clear hm hA q1 q2
   try clear q3
   try clear hu
   try clear hM
   rcases T with _|⟨t,R⟩<;>rcases K with _|⟨k,K⟩
   all_goals first|(cases (ht rfl).1;done)|(cases (ht rfl).2;done)|skip
   all_goals
    clear ht;simp only[cxS,cxN,cxK,cxA,RX.o,rd,rdT,rdR,xD,List.cons_append,List.nil_append,List.append_nil,List.map_nil,List.length_nil,List.length_cons,Nat.zero_add,Nat.reduceAdd] at hj hb he e1 e2 hV hv hW ⊢;simp only[List.cons_append,List.nil_append,List.map_nil] at hy
    try simp only[rd,rdT,rdR,List.cons_append,List.nil_append,List.map_nil] at hX
    try simp only[rd,rdT,rdR,List.cons_append,List.nil_append,List.map_nil] at hY
    try simp only[rd,rdT,rdR,List.cons_append,List.nil_append,List.map_nil] at hn
    try generalize (t::R).map Node.c=E0 at *
    generalize hO:(t2::R2).map Node.c=E1 at *;generalize (t2::(R2++[N])).map Node.c=E2 at *
    try generalize (k::K).map intC=EK at *
    have hG:=Hid.mk hO;clear hO
    (refine gA ?_)
    first|(have:=hC.h;exact zD ⟨g,i2+1,t2::R2,_⟩ hF.h hC.h (by simp only[cxS,cxN,cxK,cxA,RX.o,rd,rdT,rdR,xD,List.cons_append,List.nil_append,List.append_nil,List.map_nil,List.length_nil,Nat.zero_add,Nat.reduceAdd];rw[hG.h];(try rw[show _=_ from hy.h]);exact aTd))|(have:=hn;refine aJ ?_;rfl)|(refine aM ?_;rfl)
end Go.Ab
