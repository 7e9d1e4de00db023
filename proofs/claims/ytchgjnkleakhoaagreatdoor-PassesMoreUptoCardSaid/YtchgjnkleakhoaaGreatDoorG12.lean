/- Lemmas. -/
import Derived.Test.YtchgjnkleakhoaaGreatDoorG11
import Derived.Test.YtchgjnkleakhoaaGreatDoorG17
set_option maxRecDepth 1000000
set_option maxHeartbeats 40000000
set_option linter.all false
namespace Go.Ab
open Go.Proofs
def usH(l:Tree)(i n:Nat)(T:List Test)(op p1 p2:Int)(v:Nat):Heap:=(match T with
 |[]=>[.box [.t l,.t (.int .i64 (i:Int)),.t (.int .i64 (n:Int)),.t (.sl true true [])]]
 |t::r=>[.box [.t l,.t (.int .i64 (i:Int)),.t (.int .i64 (n:Int)),.hs 1 v],.arr 8 v false ((t::r).map Test.c)])++[.box [.t (.int .u8 op),.t (.sl true true []),.t (.sl true true []),.t (.bool false),.t (.bool false),.t (.sl true true []),.t (.int .i64 p1),.t (.int .i64 p2)]]
def usK:List Test→Nat
 |[]=>1
 |_::_=>2
def zQc(k:Nat)(H:Nat→Heap)(e:Ex)(st:St):Prop:=e=.normal∧∃v G,st.h=H v++G∧Ab.get st.T 0=.box 0 0∧Ab.get st.T 3=.box k 0∧Ab.get st.T 132=.unk
def sgC(L:List Tok)(i:Nat)(op:Int)(j:Nat):Prop:=∃w0 w1 w2 w3 w4,isW L i [61]=w0∧isW L i [60]=w1∧isW L i [60,61]=w2∧isW L i [62]=w3∧isW L i [62,61]=w4 ∧
 ((w0=true∧op=2∧j=i+1)∨(w0=false∧w1=true∧op=3∧j=i+1)∨(w0=false∧w1=false∧w2=true∧op=4∧j=i+1)∨(w0=false∧w1=false∧w2=false∧w3=true∧op=5∧j=i+1) ∨
  (w0=false∧w1=false∧w2=false∧w3=false∧w4=true∧op=6∧j=i+1)∨(w0=false∧w1=false∧w2=false∧w3=false∧w4=false∧op=2∧j=i))
def yDX(L:List Tok)(i n:Nat)(hi:i≤L.length)(T:List Test):∃op j,sgC L i op j∧j≤L.length∧(match jF L i zBD with
   |some op=>cmpX L op (plW L i) (i+1) n T
   |none=>cmpX L 2 (plW L i) i n T)=cmpX L op (plW L i) j n T:=by
 have hlt:=@yA L i;unfold sgC;simp only[jF,zBD];cases h0:isW L i [61]
 ·cases h1:isW L i [60]
  ·cases h2:isW L i [60,61]
   ·cases h3:isW L i [62]
    ·cases h4:isW L i [62,61]
     ·exact⟨2,i,⟨_,_,_,_,_,rfl,rfl,rfl,rfl,rfl,by simp⟩,hi,rfl⟩
     exact⟨6,i+1,⟨_,_,_,_,_,rfl,rfl,rfl,rfl,rfl,by simp⟩,hlt h4,rfl⟩
    exact⟨5,i+1,⟨_,_,_,_,_,rfl,rfl,rfl,rfl,rfl,by simp⟩,hlt h3,rfl⟩
   exact⟨4,i+1,⟨_,_,_,_,_,rfl,rfl,rfl,rfl,rfl,by simp⟩,hlt h2,rfl⟩
  exact⟨3,i+1,⟨_,_,_,_,_,rfl,rfl,rfl,rfl,rfl,by simp⟩,hlt h1,rfl⟩
 exact⟨2,i+1,⟨_,_,_,_,_,rfl,rfl,rfl,rfl,rfl,by simp⟩,hlt h0,rfl⟩
attribute [local irreducible] W RW RR
def xaP:=c5 zF zG zQ zE (c5 zD zI yM zB (c5 xC zO zL yL (c5 zN zU zX zS (c5 zAV zAR xZ xX (c5 zBE qJ zBK zBJ (c5 zBI zAF zAH zB3 (c3 zAL zCI zKE)))))))
def zXZ {nl cl:Bool} {L:List Tok} (hL:L.length<4000000000) {i n:Nat} (hi:i≤L.length) {op:Int} {j:Nat} (hsg:sgC L i op j) (hj:j≤L.length) (he:(zH L j).2.2=0) (hA:anyX L i=false) (hB:notX L i=false) (hC:xQ L i=false) :
  ∃o h',Om CC 161 [.box 0 0] (ru (.sl nl cl (L.map Tok.c)) i n [])=some (o,h')∧RUo (.sl nl cl (L.map Tok.c)) [] (cmpX L op (plW L i) j n []) o h':=by
 have a1:=uis0 nl cl L i n [] [45] (by omega);have a2:=zFd nl cl L hL i n [] hi;have b1:=uis0 nl cl L i n [] [110,111,116] (by omega);have b2:Om CC 162 [.box 0 0,.t (.int .i64 1),.t (.sl false false [[.str [40]]])] (ru (.sl nl cl (L.map Tok.c)) i n [])=some (.val (.t (.bool (isW L (i+1) [40]))),ru (.sl nl cl (L.map Tok.c)) i n []):=uis1 nl cl L i n [] 1 [40] (by omega);have c1:=zET nl cl L hL i n [] hi;have hpl:=jM nl cl L i n [];rw[hC] at c1;unfold anyX bne at hA;unfold notX at hB;have hA':isW L i [45]=false∨(isW L i [45]=true∧((zH L i).2.2==0)=true):=by
  generalize isW L i [45]=qa at *;generalize ((zH L i).2.2==0)=qb at *;cases qa<;>cases qb<;>simp_all
 have hB':isW L i [110,111,116]=false∨(isW L i [110,111,116]=true∧isW L (i+1) [40]=false):=by
  generalize isW L i [110,111,116]=qc at *;generalize isW L (i+1) [40]=qd at *;cases qc<;>cases qd<;>simp_all
 clear hA hB hC;have hp1:(plW L i).1=(plW L i).1:=rfl;have hp2:(plW L i).2=(plW L i).2:=rfl;generalize hp1:(plW L i).1=p1 at a1 a2 b1 b2 c1 hpl;generalize hp2:(plW L i).2=p2 at a1 a2 b1 b2 c1 hpl;generalize hl:Tree.sl nl cl (L.map Tok.c)=l at *;have hu:=Hid.mk fun w=>uis0 nl cl L i n [] w (by omega)
 have hxo:=Hid.mk (zFm nl cl L hL j n [] hj);have hxn:=Hid.mk (zGM nl cl L hL j n [] hj);have hnd:=Hid.mk fun x=>zBV (.sl nl cl (L.map Tok.c)) (zH L j).2.1 n [] x (by decide)
 rw[hl] at hu hxo hxn hnd;have hw:=wI64 i (by omega)
 (have F_:=xaP)
 simp only[ru,ruT,ruR] at a1 a2 b1 b2 c1 hpl;obtain⟨w0,w1,w2,w3,w4,u0,u1,u2,u3,u4,hsg⟩:=hsg;have h0:=hu.h [61];have h1:=hu.h [60];have h2:=hu.h [60,61];have h3:=hu.h [62];have h4:=hu.h [62,61];rw[u0] at h0;rw[u1] at h1;rw[u2] at h2;rw[u3] at h3;rw[u4] at h4;simp only[ru,ruT,ruR] at h0 h1 h2 h3 h4;have sg:=zFB;have s0:=sgn0;have s1:=sgn1;have s2:=sgn2;have s3:=sgn3;have s4:=sgn4;have k1:IntKind.i64.wrap (0+1)=1:=rfl;have k2:IntKind.i64.wrap (1+1)=2:=rfl;have k3:IntKind.i64.wrap (2+1)=3:=rfl;have k4:IntKind.i64.wrap (3+1)=4:=rfl;have k5:IntKind.i64.wrap (4+1)=5:=rfl;unfold cmpX;have hnode:=hnd.h (xJ op (zH L j).1 [] false false [] (plW L i));rw[zC7] at hnode;rw[hp1,hp2] at hnode;simp only[wG,List.isEmpty_nil,xA,List.map_nil] at hnode;generalize xJ op (zH L j).1 [] false false [] (plW L i)=N at *;have hxo:=hxo.h;have hxn:=hxn.h;generalize zH L j=r at *;obtain⟨NN,j2,e2⟩:=r;have he:e2=0:=he;dsimp only[wG] at hxo hxn hnode ⊢;clear hu hnd hp1 hp2 hl hj u0 u1 u2 u3 u4;generalize isW L i [45]=qa at *;generalize ((zH L i).2.2==0)=qb at *;generalize isW L i [110,111,116]=qc at *;generalize isW L (i+1) [40]=qd at *;rw[if_pos he];have hx:=hxo he;clear hxo hxn;subst he
 try simp only[wG] at hx
 generalize NN.map Node.c=A at *;generalize NN.isEmpty=ne at *;simp only[ru,ruT,ruR,List.nil_append,List.cons_append] at hx hnode ⊢;generalize hE1:List.map Test.c _=E1 at hnode;have hE1:=Hid.mk hE1;refine xU zAT rfl ?_ (by kernel_rfl)
 (simp only[zV,List.length_cons,List.length_nil,Nat.zero_add,Nat.reduceAdd];show W CC _ 132 (zA 161) _ _ _)
 rcases hA' with rfl|⟨rfl,rfl⟩<;>rcases hB' with rfl|⟨rfl,rfl⟩
 all_goals (refine gA ?_)<;>rcases hsg with ⟨rfl,rfl,rfl⟩|⟨rfl,rfl,rfl,rfl⟩|⟨rfl,rfl,rfl,rfl,rfl⟩|⟨rfl,rfl,rfl,rfl,rfl,rfl⟩|⟨rfl,rfl,rfl,rfl,rfl,rfl,rfl⟩|⟨rfl,rfl,rfl,rfl,rfl,rfl,rfl⟩<;>(repeat' first|refine gA ?_|refine gT ?_ ?_<;>intro hv<;>try cases hv;done|refine aI ?_|fail)<;>(refine aJ ?_;have hE1:=hE1.h;subst hE1;exact⟨rfl,rfl⟩)
end Go.Ab
