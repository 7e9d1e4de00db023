/- Lemmas. -/
import Derived.Test.YtchgjnkleakhoaaGreatDoorG12
set_option maxRecDepth 1000000
set_option maxHeartbeats 40000000
set_option linter.all false
namespace Go.Ab
open Go.Proofs
attribute [local irreducible] W RW RR
def zZF {nl cl:Bool} {L:List Tok} (hL:L.length<4000000000) {i n:Nat} (hi:i≤L.length) {op:Int} {j:Nat} (hsg:sgC L i op j) (hj:j≤L.length) (he:¬ (zH L j).2.2=0) (hA:anyX L i=false) (hB:notX L i=false) (hC:xQ L i=false) :
  ∃o h',Om CC 161 [.box 0 0] (ru (.sl nl cl (L.map Tok.c)) i n [])=some (o,h')∧RUo (.sl nl cl (L.map Tok.c)) [] (cmpX L op (plW L i) j n []) o h':=by
 have a1:=uis0 nl cl L i n [] [45] (by omega);have a2:=zFd nl cl L hL i n [] hi;have b1:=uis0 nl cl L i n [] [110,111,116] (by omega);have b2:Om CC 162 [.box 0 0,.t (.int .i64 1),.t (.sl false false [[.str [40]]])] (ru (.sl nl cl (L.map Tok.c)) i n [])=some (.val (.t (.bool (isW L (i+1) [40]))),ru (.sl nl cl (L.map Tok.c)) i n []):=uis1 nl cl L i n [] 1 [40] (by omega);have c1:=zET nl cl L hL i n [] hi;have hpl:=jM nl cl L i n [];rw[hC] at c1;unfold anyX bne at hA;unfold notX at hB;have hA':isW L i [45]=false∨(isW L i [45]=true∧((zH L i).2.2==0)=true):=by
  generalize isW L i [45]=qa at *;generalize ((zH L i).2.2==0)=qb at *;cases qa<;>cases qb<;>simp_all
 have hB':isW L i [110,111,116]=false∨(isW L i [110,111,116]=true∧isW L (i+1) [40]=false):=by
  generalize isW L i [110,111,116]=qc at *;generalize isW L (i+1) [40]=qd at *;cases qc<;>cases qd<;>simp_all
 clear hA hB hC;have hp1:(plW L i).1=(plW L i).1:=rfl;have hp2:(plW L i).2=(plW L i).2:=rfl;generalize hp1:(plW L i).1=p1 at a1 a2 b1 b2 c1 hpl;generalize hp2:(plW L i).2=p2 at a1 a2 b1 b2 c1 hpl;generalize hl:Tree.sl nl cl (L.map Tok.c)=l at *;have hu:=Hid.mk fun w=>uis0 nl cl L i n [] w (by omega)
 have hxo:=Hid.mk (zFm nl cl L hL j n [] hj);have hxn:=Hid.mk (zGM nl cl L hL j n [] hj);have hnd:=Hid.mk fun x=>zBV (.sl nl cl (L.map Tok.c)) (zH L j).2.1 n [] x (by decide)
 rw[hl] at hu hxo hxn hnd;have hw:=wI64 i (by omega)
 (have F_:=xaP)
 simp only[ru,ruT,ruR] at a1 a2 b1 b2 c1 hpl;obtain⟨w0,w1,w2,w3,w4,u0,u1,u2,u3,u4,hsg⟩:=hsg;have h0:=hu.h [61];have h1:=hu.h [60];have h2:=hu.h [60,61];have h3:=hu.h [62];have h4:=hu.h [62,61];rw[u0] at h0;rw[u1] at h1;rw[u2] at h2;rw[u3] at h3;rw[u4] at h4;simp only[ru,ruT,ruR] at h0 h1 h2 h3 h4;have sg:=zFB;have s0:=sgn0;have s1:=sgn1;have s2:=sgn2;have s3:=sgn3;have s4:=sgn4;have k1:IntKind.i64.wrap (0+1)=1:=rfl;have k2:IntKind.i64.wrap (1+1)=2:=rfl;have k3:IntKind.i64.wrap (2+1)=3:=rfl;have k4:IntKind.i64.wrap (3+1)=4:=rfl;have k5:IntKind.i64.wrap (4+1)=5:=rfl;unfold cmpX;have hnode:=hnd.h (xJ op (zH L j).1 [] false false [] (plW L i));rw[zC7] at hnode;rw[hp1,hp2] at hnode;simp only[wG,List.isEmpty_nil,xA,List.map_nil] at hnode;generalize xJ op (zH L j).1 [] false false [] (plW L i)=N at *;have hxo:=hxo.h;have hxn:=hxn.h;generalize zH L j=r at *;obtain⟨NN,j2,e2⟩:=r;have he:¬ e2=0:=he;dsimp only[wG] at hxo hxn hnode ⊢;clear hu hnd hp1 hp2 hl hj u0 u1 u2 u3 u4;generalize isW L i [45]=qa at *;generalize ((zH L i).2.2==0)=qb at *;generalize isW L i [110,111,116]=qc at *;generalize isW L (i+1) [40]=qd at *;rw[if_neg he];have hx:=hxn he;clear hxo hxn;have hf:Hid (∀x:Heap,x=ru l j2 n ([]:List Test)→RUo l ([]:List Test) (.pan e2 j2) (.pan (.t (ustop j2 e2))) x):=⟨fun x h=>⟨rfl,n,_,h,fun h=>h⟩⟩
 simp only[ustop,ru,ruT,ruR] at hx ⊢;refine xU zAT rfl ?_ (by kernel_rfl)
 (simp only[zV,List.length_cons,List.length_nil,Nat.zero_add,Nat.reduceAdd];show W CC _ 132 (zA 161) _ _ _)
 rcases hA' with rfl|⟨rfl,rfl⟩<;>rcases hB' with rfl|⟨rfl,rfl⟩
 all_goals (refine gA ?_)<;>rcases hsg with ⟨rfl,rfl,rfl⟩|⟨rfl,rfl,rfl,rfl⟩|⟨rfl,rfl,rfl,rfl,rfl⟩|⟨rfl,rfl,rfl,rfl,rfl,rfl⟩|⟨rfl,rfl,rfl,rfl,rfl,rfl,rfl⟩|⟨rfl,rfl,rfl,rfl,rfl,rfl,rfl⟩<;>(repeat' first|refine gA ?_|refine gT ?_ ?_<;>intro hv<;>try cases hv;done|refine aI ?_|fail)<;>(refine aM ?_;exact hf.h _ rfl)
end Go.Ab
