/- Lemmas. -/
import Derived.Test.YtdbfacakphncfaaGreatDoorG12
set_option maxRecDepth 1000000
set_option maxHeartbeats 40000000
set_option linter.all false
namespace Go.Ab
open Go.Proofs
attribute [local irreducible] W RW RR
def yAT {nl cl:Bool} {L:List Tok} (hL:L.length<4000000000) {i n:Nat} {t0:Test} {T0:List Test} (hi:i≤L.length) (hT:(t0::T0).length<4294967295) {op:Int} {j:Nat} (hz:sgC L i op j) (hj:j≤L.length) (hA:anyX L i=false) (hB:notX L i=false) (hC:xQ L i=false) :
  ∃o h',Om CC 78 [.box 0 0] (ru (.sl nl cl (L.map Tok.c)) i n (t0::T0))=some (o,h')∧RUo (.sl nl cl (L.map Tok.c)) (t0::T0) (cmpX L op (plW L i) j n (t0::T0)) o h':=by
 obtain⟨T,hE⟩:∃T,T=t0::T0:=⟨_,rfl⟩;rw[← hE] at hT ⊢;have a1:=uis0 nl cl L i n T [45] (by omega);have a2:=zEQ nl cl L hL i n T hi;have b1:=uis0 nl cl L i n T [110,111,116] (by omega);have b2:Om CC 79 [.box 0 0,.t (.int .i64 1),.t (.sl false false [[.str [40]]])] (ru (.sl nl cl (L.map Tok.c)) i n T)=some (.val (.t (.bool (isW L (i+1) [40]))),ru (.sl nl cl (L.map Tok.c)) i n T):=uis1 nl cl L i n T 1 [40] (by omega);have c1:=zE2 nl cl L hL i n T hi;have hk:=kO nl cl L i n T;rw[hC] at c1;unfold anyX bne at hA;unfold notX at hB;have hF:isW L i [45]=false∨(isW L i [45]=true∧((zH L i).2.2==0)=true):=by
  generalize isW L i [45]=qa at *;generalize ((zH L i).2.2==0)=qb at *;cases qa<;>cases qb<;>simp_all
 have hG:isW L i [110,111,116]=false∨(isW L i [110,111,116]=true∧isW L (i+1) [40]=false):=by
  generalize isW L i [110,111,116]=qc at *;generalize isW L (i+1) [40]=qd at *;cases qc<;>cases qd<;>simp_all
 clear hA hB hC;have hm:(plW L i).1=(plW L i).1:=rfl;have hn:(plW L i).2=(plW L i).2:=rfl;generalize hm:(plW L i).1=p1 at a1 a2 b1 b2 c1 hk;generalize hn:(plW L i).2=p2 at a1 a2 b1 b2 c1 hk;generalize hl:Tree.sl nl cl (L.map Tok.c)=l at *;have hu:=Hid.mk fun w=>uis0 nl cl L i n T w (by omega)
 have hb:=Hid.mk (zFD nl cl L hL j n T hj);have hc:=Hid.mk (zHb nl cl L hL j n T hj);have ho:=Hid.mk fun x=>zBp (.sl nl cl (L.map Tok.c)) (zH L j).2.1 n T x hT
 rw[hl] at hu hb hc ho;obtain⟨H0,hD⟩:∃H0,Hid (H0=usH l i n T 2 p1 p2):=⟨_,⟨rfl⟩⟩;obtain⟨H1,hy⟩:∃H1,Hid (H1=usH l j n T op p1 p2):=⟨_,⟨rfl⟩⟩;obtain⟨k0,hp⟩:∃k0,Hid (k0=usK T):=⟨_,⟨rfl⟩⟩;have hw:=wI64 i (by omega)
 (have F_:=xaP)
 subst hE;simp only[ru,ruT,ruR] at a1 a2 b1 b2 c1 hk
 show ∃o h,Om CC _ _ (.box [.t l,.t (.int .i64 (i:Int)),.t (.int .i64 (n:Int)),_]::_)=_∧_
 simp only[ruT,ruR];refine xU zBs rfl ?_ (by kernel_rfl)
 (simp only[zT,List.length_cons,List.length_nil,Nat.zero_add,Nat.reduceAdd];show W CC _ 132 (zA 78) _ _ _)
 refine zXT (zXT (zFJ (W.mono (Q:=zQU k0 H0) ?_ ?_)))
 ·clear hm hn hl hu hb hc ho hy
  try generalize hd:List.map Test.c (t0::T0)=E0 at a1 a2 b1 b2 c1 hk ⊢
  generalize isW L i [45]=qa at *;generalize ((zH L i).2.2==0)=qb at *;generalize isW L i [110,111,116]=qc at *;generalize isW L (i+1) [40]=qd at *;rcases hF with rfl|⟨rfl,rfl⟩<;>rcases hG with rfl|⟨rfl,rfl⟩
  all_goals (refine gA ?_)<;>(try subst hd)<;>(rw[hD.h,hp.h];first|exact⟨rfl,_,_,rfl,rfl,rfl,rfl⟩|exact⟨rfl,0,_,rfl,rfl,rfl,rfl⟩)
 rintro e ⟨T9,h9⟩ ⟨rfl,v9,G,hh,g0,g3,g132⟩;rw[hD.h] at hh;rw[hp.h] at g3;simp only[usH,usK] at hh g0 g3 g132;subst hh;clear a1 a2 b1 b2 c1 hk hF hG hD;refine zFJ (W.mono (Q:=zQU k0 H1) ?_ ?_)
 ·obtain⟨w0,w1,w2,w3,w4,u0,u1,u2,u3,u4,hz⟩:=hz;have h0:=hu.h [61];have h1:=hu.h [60];have h2:=hu.h [60,61];have h3:=hu.h [62];have h4:=hu.h [62,61];rw[u0] at h0;rw[u1] at h1;rw[u2] at h2;rw[u3] at h3;rw[u4] at h4;simp only[ru,ruT,ruR] at h0 h1 h2 h3 h4
  try generalize hd:List.map Test.c (t0::T0)=E0 at h0 h1 h2 h3 h4 ⊢
  clear u0 u1 u2 u3 u4 hm hn hl hu hb hc ho;have sg:=zFv;have s0:=sgn0;have s1:=sgn1;have s2:=sgn2;have s3:=sgn3;have s4:=sgn4;have k1:IntKind.i64.wrap (0+1)=1:=rfl;have k2:IntKind.i64.wrap (1+1)=2:=rfl;have k3:IntKind.i64.wrap (2+1)=3:=rfl;have k4:IntKind.i64.wrap (3+1)=4:=rfl;have k5:IntKind.i64.wrap (4+1)=5:=rfl;have v1:Nat.beq v9 v9=true:=Nat.beq_refl v9;have v2:decide (v9=v9)=true:=decide_eq_true rfl
  (refine gA ?_)
  refine aI ?_ (by(have X_:=c5 @g0 @g3 @g132 @v1 @v2;exact aTdX));clear v1 v2 g0 g3 g132;rcases hz with ⟨rfl,hq⟩|⟨rfl,rfl,hq⟩|⟨rfl,rfl,rfl,hq⟩|⟨rfl,rfl,rfl,rfl,hq⟩|⟨rfl,rfl,rfl,rfl,rfl,hq⟩|⟨rfl,rfl,rfl,rfl,rfl,hq⟩
  all_goals
   (repeat' first|refine gA ?_|refine gT ?_ ?_<;>intro hv<;>try cases hv;done|refine aI ?_|fail)
   try subst hd
   rw[hy.h,hq.1,hq.2,hp.h]
   first|exact⟨rfl,_,_,rfl,rfl,rfl,rfl⟩|exact⟨rfl,0,_,rfl,rfl,rfl,rfl⟩
 rintro e ⟨T9,h9⟩ ⟨rfl,v9,G,hh,g0,g3,g132⟩;rw[hy.h] at hh;rw[hp.h] at g3;simp only[usH,usK] at hh g0 g3 g132;subst hh;have v1:Nat.beq v9 v9=true:=Nat.beq_refl v9;have v2:decide (v9=v9)=true:=decide_eq_true rfl;unfold cmpX;have ha:=ho.h (xK op (zH L j).1 [] false false [] (plW L i));rw[zCJ] at ha;rw[hm,hn] at ha;simp only[wJ,List.isEmpty_nil,xE,List.map_nil] at ha;generalize xK op (zH L j).1 [] false false [] (plW L i)=N at *;have hb:=hb.h;have hc:=hc.h;generalize zH L j=r at *;obtain⟨NN,j2,e2⟩:=r;dsimp only[wJ] at hb hc ha ⊢;clear hu ho hm hn hT hl hy hp hj
 by_cases he:e2=0
 ·rw[if_pos he];have hx:=hb he;clear hb hc;subst he
  try simp only[wJ] at hx
  generalize NN.map Node.c=A at *;generalize NN.isEmpty=ne at *;simp only[RUo,ru,ruT,ruR,List.nil_append,List.cons_append] at hx ha ⊢
  try generalize hd:List.map Test.c (t0::T0)=E0 at hx ha ⊢
  generalize ht:List.map Test.c _=E1 at ha;have ht:=Hid.mk ht
  (refine gA ?_)
  (refine aJ ?_ (h0:=by(show yK 132 _=some [];simp only[yK,Ab.get,Nat.beq,g132])))
  have ht:=ht.h;subst ht;exact⟨rfl,rfl⟩
 rw[if_neg he];have hx:=hc he;clear hb hc;have hf:Hid (∀x:Heap,x=ru l j2 n (t0::T0)→RUo l (t0::T0) (.pan e2 j2) (.pan (.t (ustop j2 e2))) x):=⟨fun x h=>⟨rfl,n,_,h,fun h=>h⟩⟩
 simp only[ustop,ru,ruT,ruR] at hx
 try generalize hd:List.map Test.c (t0::T0)=E0 at hx ⊢
 (refine gA ?_)
 refine aM ?_ (h0:=by(show yK 132 _=some [];simp only[yK,Ab.get,Nat.beq,g132]))
 try subst hd
 exact hf.h _ rfl
end Go.Ab
