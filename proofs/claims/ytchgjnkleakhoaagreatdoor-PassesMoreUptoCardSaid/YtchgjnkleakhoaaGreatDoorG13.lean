/- Lemmas. -/
import Derived.Test.YtchgjnkleakhoaaGreatDoorG12
set_option maxRecDepth 1000000
set_option maxHeartbeats 40000000
set_option linter.all false
namespace Go.Ab
open Go.Proofs
attribute [local irreducible] W RW RR
def zYD {nl cl:Bool} {L:List Tok} (hL:L.length<4000000000) {i n:Nat} {t0:Test} {T0:List Test} (hi:i≤L.length) (hT:(t0::T0).length<4294967295) {op:Int} {j:Nat} (hsg:sgC L i op j) (hj:j≤L.length) (hA:anyX L i=false) (hB:notX L i=false) (hC:xQ L i=false) :
  ∃o h',Om CC 161 [.box 0 0] (ru (.sl nl cl (L.map Tok.c)) i n (t0::T0))=some (o,h')∧RUo (.sl nl cl (L.map Tok.c)) (t0::T0) (cmpX L op (plW L i) j n (t0::T0)) o h':=by
 obtain⟨T,hTT⟩:∃T,T=t0::T0:=⟨_,rfl⟩;rw[← hTT] at hT ⊢;have a1:=uis0 nl cl L i n T [45] (by omega);have a2:=zFd nl cl L hL i n T hi;have b1:=uis0 nl cl L i n T [110,111,116] (by omega);have b2:Om CC 162 [.box 0 0,.t (.int .i64 1),.t (.sl false false [[.str [40]]])] (ru (.sl nl cl (L.map Tok.c)) i n T)=some (.val (.t (.bool (isW L (i+1) [40]))),ru (.sl nl cl (L.map Tok.c)) i n T):=uis1 nl cl L i n T 1 [40] (by omega);have c1:=zET nl cl L hL i n T hi;have hpl:=jM nl cl L i n T;rw[hC] at c1;unfold anyX bne at hA;unfold notX at hB;have hA':isW L i [45]=false∨(isW L i [45]=true∧((zH L i).2.2==0)=true):=by
  generalize isW L i [45]=qa at *;generalize ((zH L i).2.2==0)=qb at *;cases qa<;>cases qb<;>simp_all
 have hB':isW L i [110,111,116]=false∨(isW L i [110,111,116]=true∧isW L (i+1) [40]=false):=by
  generalize isW L i [110,111,116]=qc at *;generalize isW L (i+1) [40]=qd at *;cases qc<;>cases qd<;>simp_all
 clear hA hB hC;have hp1:(plW L i).1=(plW L i).1:=rfl;have hp2:(plW L i).2=(plW L i).2:=rfl;generalize hp1:(plW L i).1=p1 at a1 a2 b1 b2 c1 hpl;generalize hp2:(plW L i).2=p2 at a1 a2 b1 b2 c1 hpl;generalize hl:Tree.sl nl cl (L.map Tok.c)=l at *;have hu:=Hid.mk fun w=>uis0 nl cl L i n T w (by omega)
 have hxo:=Hid.mk (zFm nl cl L hL j n T hj);have hxn:=Hid.mk (zGM nl cl L hL j n T hj);have hnd:=Hid.mk fun x=>zBV (.sl nl cl (L.map Tok.c)) (zH L j).2.1 n T x hT
 rw[hl] at hu hxo hxn hnd;obtain⟨H0,hH0⟩:∃H0,Hid (H0=usH l i n T 2 p1 p2):=⟨_,⟨rfl⟩⟩;obtain⟨H1,hH1⟩:∃H1,Hid (H1=usH l j n T op p1 p2):=⟨_,⟨rfl⟩⟩;obtain⟨k0,hk0⟩:∃k0,Hid (k0=usK T):=⟨_,⟨rfl⟩⟩;have hw:=wI64 i (by omega)
 (have F_:=xaP)
 subst hTT;simp only[ru,ruT,ruR] at a1 a2 b1 b2 c1 hpl
 show ∃o h,Om CC _ _ (.box [.t l,.t (.int .i64 (i:Int)),.t (.int .i64 (n:Int)),_]::_)=_∧_
 simp only[ruT,ruR];refine xU zAT rfl ?_ (by kernel_rfl)
 (simp only[zV,List.length_cons,List.length_nil,Nat.zero_add,Nat.reduceAdd];show W CC _ 132 (zA 161) _ _ _)
 refine zXr (zXr (zCU (W.mono (Q:=zQc k0 H0) ?_ ?_)))
 ·clear hp1 hp2 hl hu hxo hxn hnd hH1
  try generalize hE0:List.map Test.c (t0::T0)=E0 at a1 a2 b1 b2 c1 hpl ⊢
  generalize isW L i [45]=qa at *;generalize ((zH L i).2.2==0)=qb at *;generalize isW L i [110,111,116]=qc at *;generalize isW L (i+1) [40]=qd at *;rcases hA' with rfl|⟨rfl,rfl⟩<;>rcases hB' with rfl|⟨rfl,rfl⟩
  all_goals (refine gA ?_)<;>(try subst hE0)<;>(rw[hH0.h,hk0.h];first|exact⟨rfl,_,_,rfl,rfl,rfl,rfl⟩|exact⟨rfl,0,_,rfl,rfl,rfl,rfl⟩)
 rintro e ⟨T9,h9⟩ ⟨rfl,v9,G,hh,g0,g3,g132⟩;rw[hH0.h] at hh;rw[hk0.h] at g3;simp only[usH,usK] at hh g0 g3 g132;subst hh;clear a1 a2 b1 b2 c1 hpl hA' hB' hH0;refine zCU (W.mono (Q:=zQc k0 H1) ?_ ?_)
 ·obtain⟨w0,w1,w2,w3,w4,u0,u1,u2,u3,u4,hsg⟩:=hsg;have h0:=hu.h [61];have h1:=hu.h [60];have h2:=hu.h [60,61];have h3:=hu.h [62];have h4:=hu.h [62,61];rw[u0] at h0;rw[u1] at h1;rw[u2] at h2;rw[u3] at h3;rw[u4] at h4;simp only[ru,ruT,ruR] at h0 h1 h2 h3 h4
  try generalize hE0:List.map Test.c (t0::T0)=E0 at h0 h1 h2 h3 h4 ⊢
  clear u0 u1 u2 u3 u4 hp1 hp2 hl hu hxo hxn hnd;have sg:=zFB;have s0:=sgn0;have s1:=sgn1;have s2:=sgn2;have s3:=sgn3;have s4:=sgn4;have k1:IntKind.i64.wrap (0+1)=1:=rfl;have k2:IntKind.i64.wrap (1+1)=2:=rfl;have k3:IntKind.i64.wrap (2+1)=3:=rfl;have k4:IntKind.i64.wrap (3+1)=4:=rfl;have k5:IntKind.i64.wrap (4+1)=5:=rfl;have v1:Nat.beq v9 v9=true:=Nat.beq_refl v9;have v2:decide (v9=v9)=true:=decide_eq_true rfl
  (refine gA ?_)
  refine aI ?_ (by(have X_:=c5 @g0 @g3 @g132 @v1 @v2;exact aTdX));clear v1 v2 g0 g3 g132;rcases hsg with ⟨rfl,hq⟩|⟨rfl,rfl,hq⟩|⟨rfl,rfl,rfl,hq⟩|⟨rfl,rfl,rfl,rfl,hq⟩|⟨rfl,rfl,rfl,rfl,rfl,hq⟩|⟨rfl,rfl,rfl,rfl,rfl,hq⟩
  all_goals
   (repeat' first|refine gA ?_|refine gT ?_ ?_<;>intro hv<;>try cases hv;done|refine aI ?_|fail)
   try subst hE0
   rw[hH1.h,hq.1,hq.2,hk0.h]
   first|exact⟨rfl,_,_,rfl,rfl,rfl,rfl⟩|exact⟨rfl,0,_,rfl,rfl,rfl,rfl⟩
 rintro e ⟨T9,h9⟩ ⟨rfl,v9,G,hh,g0,g3,g132⟩;rw[hH1.h] at hh;rw[hk0.h] at g3;simp only[usH,usK] at hh g0 g3 g132;subst hh;have v1:Nat.beq v9 v9=true:=Nat.beq_refl v9;have v2:decide (v9=v9)=true:=decide_eq_true rfl;unfold cmpX;have hnode:=hnd.h (xJ op (zH L j).1 [] false false [] (plW L i));rw[zC7] at hnode;rw[hp1,hp2] at hnode;simp only[wG,List.isEmpty_nil,xA,List.map_nil] at hnode;generalize xJ op (zH L j).1 [] false false [] (plW L i)=N at *;have hxo:=hxo.h;have hxn:=hxn.h;generalize zH L j=r at *;obtain⟨NN,j2,e2⟩:=r;dsimp only[wG] at hxo hxn hnode ⊢;clear hu hnd hp1 hp2 hT hl hH1 hk0 hj
 by_cases he:e2=0
 ·rw[if_pos he];have hx:=hxo he;clear hxo hxn;subst he
  try simp only[wG] at hx
  generalize NN.map Node.c=A at *;generalize NN.isEmpty=ne at *;simp only[RUo,ru,ruT,ruR,List.nil_append,List.cons_append] at hx hnode ⊢
  try generalize hE0:List.map Test.c (t0::T0)=E0 at hx hnode ⊢
  generalize hE1:List.map Test.c _=E1 at hnode;have hE1:=Hid.mk hE1
  (refine gA ?_)
  (refine aJ ?_ (h0:=by(show yI 132 _=some [];simp only[yI,Ab.get,Nat.beq,g132])))
  have hE1:=hE1.h;subst hE1;exact⟨rfl,rfl⟩
 rw[if_neg he];have hx:=hxn he;clear hxo hxn;have hf:Hid (∀x:Heap,x=ru l j2 n (t0::T0)→RUo l (t0::T0) (.pan e2 j2) (.pan (.t (ustop j2 e2))) x):=⟨fun x h=>⟨rfl,n,_,h,fun h=>h⟩⟩
 simp only[ustop,ru,ruT,ruR] at hx
 try generalize hE0:List.map Test.c (t0::T0)=E0 at hx ⊢
 (refine gA ?_)
 refine aM ?_ (h0:=by(show yI 132 _=some [];simp only[yI,Ab.get,Nat.beq,g132]))
 try subst hE0
 exact hf.h _ rfl
end Go.Ab
