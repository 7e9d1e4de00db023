/- Lemmas. -/
import Derived.Test.YtchgjnkleakhoaaGreatDoorG08
set_option maxRecDepth 1000000
set_option maxHeartbeats 40000000
set_option linter.all false
namespace Go.Ab
open Go.Proofs
attribute [local irreducible] W RW RR
def zXe {nl cl:Bool} {L:List Tok} {i d:Nat} {T:List Node} {op:Int} {least most:Nat} {p:Int×Int} (hi:i<9223372036854775806) (hw:isW L (i+1) [40]=false) :
  Om CC 279 [.box 0 0,.t (.agg [.int .u8 op,.int .i64 (least:Int),.int .i64 (most:Int)]),.t (.agg [.int .i64 p.1,.int .i64 p.2])] (rd (.sl nl cl (L.map Tok.c)) i d T)=some ((RX.pan 4 (i+1) d T).o (.sl nl cl (L.map Tok.c))):=by
 have h1:=kL nl cl L (i+1) d T [40];have h2:=zHw nl cl L (i+1) d T [40] hw;rw[hw] at h1;clear hw;have h4:=wI64 i (by omega);generalize Tree.sl nl cl (L.map Tok.c)=l at *
 (have F_:=c5 zF zG zQ zE (c5 zD zI zB zO (c5 zL zN zX zS (c5 yJ yK wP jC (c3 zNV wY zA2)))))
 rcases T with _|⟨t0,T0⟩
 all_goals simp only[RX.o,rd,rdT,rdR,yZ] at h1 h2 ⊢<;>(try generalize (t0::T0).map Node.c=E0 at *)<;>refine wA zL3 rfl ?_<;>(simp only[zV,List.length_cons,List.length_nil,Nat.zero_add,Nat.reduceAdd];show W CC _ 74 (zA 279) _ _ _)<;>(refine gA ?_)<;>(first|(refine aJ ?_;rfl)|(refine aM ?_;rfl))
def zRN {nl cl:Bool} {L:List Tok} {i:Nat} {T:List Node} {op:Int} {least most:Nat} {p:Int×Int} (hi:i<9223372036854775806) (hw:isW L (i+1) [40]=true) :
  Om CC 279 [.box 0 0,.t (.agg [.int .u8 op,.int .i64 (least:Int),.int .i64 (most:Int)]),.t (.agg [.int .i64 p.1,.int .i64 p.2])] (rd (.sl nl cl (L.map Tok.c)) i 12 T)=some ((RX.pan 12 (i+1) 12 T).o (.sl nl cl (L.map Tok.c))):=by
 have h1:=kL nl cl L (i+1) 12 T [40];have h2:=zJ1 (.sl nl cl (L.map Tok.c)) (i+1) T;rw[hw] at h1;clear hw;have h4:=wI64 i (by omega);generalize Tree.sl nl cl (L.map Tok.c)=l at *
 (have F_:=c5 zF zG zQ zE (c5 zD zI zB zO (c5 zL zN zX zS (c5 yJ yK wP jC (c3 zNV wY jD)))))
 rcases T with _|⟨t0,T0⟩
 all_goals simp only[RX.o,rd,rdT,rdR,yZ] at h1 h2 ⊢<;>(try generalize (t0::T0).map Node.c=E0 at *)<;>refine wA zL3 rfl ?_<;>(simp only[zV,List.length_cons,List.length_nil,Nat.zero_add,Nat.reduceAdd];show W CC _ 74 (zA 279) _ _ _)<;>(refine gA ?_)<;>(first|(refine aJ ?_;rfl)|(refine aM ?_;rfl))
structure CallI where
 g:Nat
 i:Nat
 T:List Node
 K:List Int
def cxK:List Int→AV
 |[]=>.t (.sl true true [])
 |_::_=>.hs 4 0
def cxA:List Int→Heap
 |[]=>[]
 |k::K=>[.arr 1 0 false ((k::K).map intC)]
def cxN:List Node→Nat
 |[]=>1
 |_::_=>2
def cxS(l:Tree)(op:Int)(least most:Nat)(p:Int×Int)(d:Nat)(x:CallI):St :=
 ⟨[(0,.box 0 0),(4,.box (cxN x.T) 0),(5,.box (cxN x.T+1) 0),(7,cxK x.K)],rd l x.i d x.T++([.box [.t (.int .u8 op),.t (.int .i64 (least:Int)),.t (.int .i64 (most:Int))],.box [.t (.int .i64 p.1),.t (.int .i64 p.2)]]++cxA x.K)⟩
structure CxP (L:List Tok) (f:Nat) (op:Int) (least most:Nat) (p:Int×Int) (d:Nat) (r:RX) (T0:List Node) (x:CallI):Prop where
 h:PX L x.g (.call op least most x.K p) x.i d x.T=some r
 hg:x.g≤f
 hi:x.i≤L.length
 hB:x.T.length+(L.length - x.i)≤4000000000
 hK:x.K.length+(L.length - x.i)≤4000000000
 hT:x.T=[]→x.K=[]∧T0=[]
def zVP {L:List Tok} {f:Nat} {op:Int} {least most:Nat} {p:Int×Int} {d:Nat} {r:RX} {T0:List Node} {x:CallI} (hd:d+1≤12) (hx:CxP L f op least most p (d+1) r T0 x) :
  ∃g rr,g<x.g∧PX L g (.lev 0) x.i (d+1) x.T=some rr∧((∃e i d T,rr=.pan e i d T∧r=rr∧(T=[]→x.T=[])) ∨
   ∃a i t R,rr=.ok a i (d+1) (t::R)∧((isW L i [44]=true∧isW L i [41]=false∧(x.K.length+1==most)=true∧r=.pan 14 i (d+1) (t::R)) ∨
    (isW L i [44]=true∧isW L i [41]=false∧(x.K.length+1==most)=false∧i<L.length∧CxP L f op least most p (d+1) r T0 ⟨g,i+1,t::R,x.K++[(a:Int)]⟩) ∨
    (isW L i [44]=false∧isW L i [41]=true∧Nat.blt (x.K.length+1) least=true∧r=.pan 14 i (d+1) (t::R)) ∨
    (isW L i [44]=false∧isW L i [41]=true∧Nat.blt (x.K.length+1) least=false∧i<L.length∧(t::R).length<4294967295∧r=.ok (t::R).length (i+1) d (t::R++[xK op VZ [] (x.K++[(a:Int)]) p])) ∨
    (isW L i [44]=false∧isW L i [41]=false∧r=.pan 4 i (d+1) (t::R)))):=by
 obtain⟨g,i,T,K⟩:=x;obtain⟨h,hg,hi,hB,hK,hT⟩:=hx;dsimp only at *;rcases g with _|g
 ·simp [PX] at h
 rw[PX] at h;cases hh:PX L g (.lev 0) i (d+1) T with
 |none=>rw[hh] at h;cases h
 |some rr =>
  have hk:=xO _ _ _ _ _ _ hh hi hd trivial;have hgr:=zA6 _ _ _ _ _ _ hh;rw[hh] at h;refine⟨g,rr,Nat.lt_succ_self g,hh,?_⟩;cases rr with
  |pan e i2 d2 T2 =>
   cases h;exact .inl ⟨e,i2,d2,T2,rfl,rfl,fun h=>List.length_eq_zero_iff.1 (by rw[h] at hgr;exact Nat.le_zero.1 hgr)⟩
  |ok a i2 d3 T2 =>
   dsimp only at h;obtain⟨k1,k2,k3,k4,k5⟩:=hk;simp only[Cmd.dt] at k3;subst k3;rcases T2 with _|⟨t2,R2⟩
   ·exact absurd k5 (by simp)
   refine .inr ⟨a,i2,t2,R2,rfl,?_⟩;have hox:=@wT L i2 [44] [41];have hkl:(K++[(a:Int)]).length=K.length+1:=by simp
   have hlt:=@yA L i2;rw[hkl] at h;cases h44:isW L i2 [44] with
   |true =>
    have h41:=hox h44 (by decide);have:=hlt h44;rw[h44,h41] at h;cases hq:(K.length+1==most) with
    |true=>rw[hq,if_pos (by simp)] at h;cases h;exact .inl ⟨rfl,h41,rfl,rfl⟩
    |false=>rw[hq,if_neg (by simp),if_pos rfl] at h;exact .inr (.inl ⟨rfl,h41,rfl,this,h,by dsimp only;omega,by dsimp only;omega,by dsimp only;omega,by dsimp only;omega,fun h=>by cases h⟩)
   |false =>
    rw[h44] at h;cases h41:isW L i2 [41] with
    |true =>
     have:=hlt h41;rw[h41] at h;cases hq:Nat.blt (K.length+1) least with
     |true=>rw[hq,if_pos (by simp)] at h;cases h;exact .inr (.inr (.inl ⟨rfl,rfl,rfl,rfl⟩))
     |false=>rw[hq,if_neg (by simp),if_neg (by simp),if_pos rfl,Nat.add_sub_cancel] at h;cases h;exact .inr (.inr (.inr (.inl ⟨rfl,rfl,rfl,this,by omega,rfl⟩)))
    |false=>rw[h41,if_neg (by simp),if_neg (by simp),if_neg (by simp)] at h;cases h;exact .inr (.inr (.inr (.inr ⟨rfl,rfl,rfl⟩)))
def zWt {nl cl:Bool} {L:List Tok} {i0 d2' f:Nat} {T:List Node} {r:RX} {op:Int} {least most:Nat} {p:Int×Int} (hL:L.length<4000000000) (hih:LevH nl cl L 0 f) (h:PX L f (.call op least most [] p) (i0+2) (d2'+1) T=some r) (hw:isW L (i0+1) [40]=true)
  (hi:i0+2≤L.length) (hd:d2'<12) (hB:T.length+(L.length - (i0+2))≤4000000000) :
  Om CC 279 [.box 0 0,.t (.agg [.int .u8 op,.int .i64 (least:Int),.int .i64 (most:Int)]),.t (.agg [.int .i64 p.1,.int .i64 p.2])] (rd (.sl nl cl (L.map Tok.c)) i0 d2' T)=some (r.o (.sl nl cl (L.map Tok.c))):=by
 have h1:=kL nl cl L (i0+1) d2' T [40];have h2:=zD3 (.sl nl cl (L.map Tok.c)) (i0+1) d2' T hd;have h3:=zDZ nl cl L (i0+1) (d2'+1) T [40] (by omega) hw;rw[hw] at h1;clear hw;have h4:=wI64 i0 (by omega);generalize hl:Tree.sl nl cl (L.map Tok.c)=l at *;have hd:d2'+1≤12:=hd;generalize hii:i0+2=i at *;have hii2:i0+1+1=i:=by omega
 have hinit:Hid (CxP L f op least most p (d2'+1) r T ⟨f,i,T,[]⟩):=⟨⟨h,Nat.le_refl f,hi,hB,by simp only[List.length_nil];omega,fun h=>⟨rfl,h⟩⟩⟩
 clear h hi hB
 (have F_:=c5 zF zG zQ zE (c5 zD zI zB zO (c5 zL zN zX zS (c5 yJ yK wP jC (c5 zNV wY jD zA2 (c2 qT zAb))))))
 rcases T with _|⟨t0,R0⟩
 all_goals
  simp only[rd,rdT,rdR] at h1 h2 h3 ⊢;refine wA zL3 rfl ?_
  (simp only[zV,List.length_cons,List.length_nil,Nat.zero_add,Nat.reduceAdd];show W CC _ 74 (zA 279) _ _ _)
  try generalize hE0:(t0::R0).map Node.c=E0 at *
  (refine gA ?_)
  clear h1 h2 h3 hii hii2 h4
  try subst hE0
  refine zY (cxS l op least most p (d2'+1)) (fun x=>x.g) (CxP L f op least most p (d2'+1) r _) ⟨f,i,_,[]⟩ (by simp only[cxS,cxN,cxK,cxA,RX.o,rd,rdT,rdR,yZ,List.cons_append,List.nil_append,List.append_nil,List.map_nil,List.length_nil,Nat.zero_add,Nat.reduceAdd];exact aTd) hinit.h ?_;clear hinit;rintro⟨g',i,T,K⟩ hx;obtain⟨g,rr,hgg,hh,hc⟩:=zVP hd hx;have hlev:=hih g (by have:=hx.hg;dsimp only at *;omega) i (d2'+1) T rr hh hx.hi hd hx.hB;rw[hl] at hlev;have hcall:Om CC 198 [.box 0 0,.t (.int .i64 0)] (rd l i (d2'+1) T)=some (rr.o l):=hlev;have hTT:=hx.hT;have hKB:=hx.hK;dsimp only at hgg hh hc hTT hKB;have hgg':=Hid.mk hgg;have hsm:decide ((K.map intC).length+1<4294967296)=true:=by(rw[decide_eq_true_eq,List.length_map];omega)
  have hlens:lens 1 (K.map intC)=true:=by unfold lens;rw[List.all_map];exact List.all_eq_true.2 fun x _=>rfl
  clear hlev hKB hx hh hgg;rcases hc with ⟨e,i2,d2,T2,rfl,rfl,hTn⟩|⟨a,i2,t2,R2,rfl,hc⟩
  ·rcases T with _|⟨t,R⟩<;>rcases T2 with _|⟨t2,R2⟩<;>rcases K with _|⟨k,K⟩
   all_goals first|(cases hTn rfl;done)|(cases (hTT rfl).1;done)|(cases (hTT rfl).2;done)|skip
   all_goals
    clear hTT hTn;simp only[cxS,cxN,cxK,cxA,RX.o,rd,rdT,rdR,yZ,List.cons_append,List.nil_append,List.append_nil,List.map_nil,List.length_nil,Nat.zero_add,Nat.reduceAdd] at hcall ⊢
    try generalize (t::R).map Node.c=E0 at *
    try generalize (t2::R2).map Node.c=E1 at *
    try generalize (k::K).map intC=EK at *
    (refine gA ?_)
    refine aM ?_
    rfl
  have his44:=kL nl cl L i2 (d2'+1) (t2::R2) [44];have his41:=kL nl cl L i2 (d2'+1) (t2::R2) [41];have e1:=zBv (K.length+1) most;have e2:=yBL (K.length+1) least;have hm:Hid _:=⟨And.intro (zHw nl cl L i2 (d2'+1) (t2::R2) [41]) (zDZ nl cl L i2 (d2'+1) (t2::R2) [41])⟩
  have hKm:(K++[(a:Int)]).map intC=K.map intC++[[.int .i64 (a:Int)]]:=by rw[List.map_append];rfl
  have hnd:Hid _:=⟨zB1 l (i2+1) d2' (t2::R2) op 0 0 [] [] (.sl true true []) ⟨false,false,K++[(a:Int)]⟩ p.1 p.2⟩
  have hN:xK op VZ [] (K++[(a:Int)]) p=⟨op,⟨0,0,[]⟩,[],⟨false,false,K++[(a:Int)]⟩,p.1,p.2⟩:=by unfold xK;rw[if_neg (by simp)];rfl
  have hEl:(K.map intC++[[Tree.int .i64 (a:Int)]]).length=K.length+1:=by simp
  have hw4:IntKind.i64.wrap (((d2'+1:Nat):Int) - 1)=(d2':Int):=by rw[wrap64]<;>omega
  rw[hl] at his44 his41 hm;rw[hN] at hc;simp only[Sl.t,hKm] at hnd;generalize (⟨op,⟨0,0,[]⟩,[],⟨false,false,K++[(a:Int)]⟩,p.1,p.2⟩:Node)=N at hnd hc;have hKm:=Hid.mk hKm;clear hN;rcases hc with ⟨q1,q2,q3,rfl⟩|⟨q1,q2,q3,hlt,hag⟩|⟨q1,q2,q3,rfl⟩|⟨q1,q2,q3,hlt,hsz,rfl⟩|⟨q1,q2,rfl⟩
  all_goals
   rw[q1] at his44;rw[q2] at his41
   try rw[q3] at e1
   try rw[q3] at e2
   try have hm0:=hm.h.1 q2
   try have hm1:=hm.h.2 (by omega) q2
   try have hnode:=hnd.h hsz
   try have hw3:=wI64 i2 (by omega)
   try have hag:=Hid.mk hag
   clear hm hnd q1 q2
   try clear q3
   try clear hlt
   try clear hsz
   rcases T with _|⟨t,R⟩<;>rcases K with _|⟨k,K⟩
   all_goals first|(cases (hTT rfl).1;done)|(cases (hTT rfl).2;done)|skip
   all_goals
    clear hTT;simp only[cxS,cxN,cxK,cxA,RX.o,rd,rdT,rdR,yZ,List.cons_append,List.nil_append,List.append_nil,List.map_nil,List.length_nil,List.length_cons,Nat.zero_add,Nat.reduceAdd] at hcall his44 his41 e1 e2 hsm hlens hEl ⊢;simp only[List.cons_append,List.nil_append,List.map_nil] at hKm
    try simp only[rd,rdT,rdR,List.cons_append,List.nil_append,List.map_nil] at hm0
    try simp only[rd,rdT,rdR,List.cons_append,List.nil_append,List.map_nil] at hm1
    try simp only[rd,rdT,rdR,List.cons_append,List.nil_append,List.map_nil] at hnode
    try generalize (t::R).map Node.c=E0 at *
    generalize hE1:(t2::R2).map Node.c=E1 at *;generalize (t2::(R2++[N])).map Node.c=E2 at *
    try generalize (k::K).map intC=EK at *
    have hE1':=Hid.mk hE1;clear hE1
    (refine gA ?_)
    first|(have:=hag.h;exact zC ⟨g,i2+1,t2::R2,_⟩ hgg'.h hag.h (by simp only[cxS,cxN,cxK,cxA,RX.o,rd,rdT,rdR,yZ,List.cons_append,List.nil_append,List.append_nil,List.map_nil,List.length_nil,Nat.zero_add,Nat.reduceAdd];rw[hE1'.h];(try rw[show _=_ from hKm.h]);exact aTd))|(have:=hnode;refine aJ ?_;rfl)|(refine aM ?_;rfl)
end Go.Ab
