/- Lemmas. -/
import Derived.Test.YtdbfacakphncfaaGreatDoorG11
set_option maxRecDepth 1000000
set_option maxHeartbeats 40000000
set_option linter.all false
namespace Go.Ab
open Go.Proofs
def zFv:Om CC 49 [] []=some (.val (.t (.agg [.str [61],.int .u8 2,.int .u8 7,.str [60],.int .u8 3,.int .u8 9,.str [60,61],.int .u8 4,.int .u8 10,.str [62],.int .u8 5,.int .u8 11,.str [62,61],.int .u8 6,.int .u8 12])),[]):=vK (n:=20) (by kernel_rfl)
def sgn0:index Tryz.prog 111 (.t (.agg [.str [61],.int .u8 2,.int .u8 7,.str [60],.int .u8 3,.int .u8 9,.str [60,61],.int .u8 4,.int .u8 10,.str [62],.int .u8 5,.int .u8 11,.str [62,61],.int .u8 6,.int .u8 12])) 0=some (.t (.agg [.str [61],.int .u8 2,.int .u8 7])):=by kernel_rfl
def sgn1:index Tryz.prog 111 (.t (.agg [.str [61],.int .u8 2,.int .u8 7,.str [60],.int .u8 3,.int .u8 9,.str [60,61],.int .u8 4,.int .u8 10,.str [62],.int .u8 5,.int .u8 11,.str [62,61],.int .u8 6,.int .u8 12])) 1=some (.t (.agg [.str [60],.int .u8 3,.int .u8 9])):=by kernel_rfl
def sgn2:index Tryz.prog 111 (.t (.agg [.str [61],.int .u8 2,.int .u8 7,.str [60],.int .u8 3,.int .u8 9,.str [60,61],.int .u8 4,.int .u8 10,.str [62],.int .u8 5,.int .u8 11,.str [62,61],.int .u8 6,.int .u8 12])) 2=some (.t (.agg [.str [60,61],.int .u8 4,.int .u8 10])):=by kernel_rfl
def sgn3:index Tryz.prog 111 (.t (.agg [.str [61],.int .u8 2,.int .u8 7,.str [60],.int .u8 3,.int .u8 9,.str [60,61],.int .u8 4,.int .u8 10,.str [62],.int .u8 5,.int .u8 11,.str [62,61],.int .u8 6,.int .u8 12])) 3=some (.t (.agg [.str [62],.int .u8 5,.int .u8 11])):=by kernel_rfl
def sgn4:index Tryz.prog 111 (.t (.agg [.str [61],.int .u8 2,.int .u8 7,.str [60],.int .u8 3,.int .u8 9,.str [60,61],.int .u8 4,.int .u8 10,.str [62],.int .u8 5,.int .u8 11,.str [62,61],.int .u8 6,.int .u8 12])) 4=some (.t (.agg [.str [62,61],.int .u8 6,.int .u8 12])):=by kernel_rfl
def usH(l:Tree)(i n:Nat)(T:List Test)(op p1 p2:Int)(v:Nat):Heap:=(match T with
 |[]=>[.box [.t l,.t (.int .i64 (i:Int)),.t (.int .i64 (n:Int)),.t (.sl true true [])]]
 |t::r=>[.box [.t l,.t (.int .i64 (i:Int)),.t (.int .i64 (n:Int)),.hs 1 v],.arr 8 v false ((t::r).map Test.c)])++[.box [.t (.int .u8 op),.t (.sl true true []),.t (.sl true true []),.t (.bool false),.t (.bool false),.t (.sl true true []),.t (.int .i64 p1),.t (.int .i64 p2)]]
def usK:List Test→Nat
 |[]=>1
 |_::_=>2
def zQU(k:Nat)(H:Nat→Heap)(e:Ex)(st:St):Prop:=e=.normal∧∃v G,st.h=H v++G∧Ab.get st.T 0=.box 0 0∧Ab.get st.T 3=.box k 0∧Ab.get st.T 132=.unk
def sgC(L:List Tok)(i:Nat)(op:Int)(j:Nat):Prop:=∃w0 w1 w2 w3 w4,isW L i [61]=w0∧isW L i [60]=w1∧isW L i [60,61]=w2∧isW L i [62]=w3∧isW L i [62,61]=w4 ∧
 ((w0=true∧op=2∧j=i+1)∨(w0=false∧w1=true∧op=3∧j=i+1)∨(w0=false∧w1=false∧w2=true∧op=4∧j=i+1)∨(w0=false∧w1=false∧w2=false∧w3=true∧op=5∧j=i+1) ∨
  (w0=false∧w1=false∧w2=false∧w3=false∧w4=true∧op=6∧j=i+1)∨(w0=false∧w1=false∧w2=false∧w3=false∧w4=false∧op=2∧j=i))
def yGC(L:List Tok)(i n:Nat)(hi:i≤L.length)(T:List Test):∃op j,sgC L i op j∧j≤L.length∧(match kL L i zBq with
   |some op=>cmpX L op (plW L i) (i+1) n T
   |none=>cmpX L 2 (plW L i) i n T)=cmpX L op (plW L i) j n T:=by
 have hc:=@zY L i;unfold sgC;simp only[kL,zBq];cases h0:isW L i [61]
 ·cases h1:isW L i [60]
  ·cases h2:isW L i [60,61]
   ·cases h3:isW L i [62]
    ·cases h4:isW L i [62,61]
     ·exact⟨2,i,⟨_,_,_,_,_,rfl,rfl,rfl,rfl,rfl,by simp⟩,hi,rfl⟩
     exact⟨6,i+1,⟨_,_,_,_,_,rfl,rfl,rfl,rfl,rfl,by simp⟩,hc h4,rfl⟩
    exact⟨5,i+1,⟨_,_,_,_,_,rfl,rfl,rfl,rfl,rfl,by simp⟩,hc h3,rfl⟩
   exact⟨4,i+1,⟨_,_,_,_,_,rfl,rfl,rfl,rfl,rfl,by simp⟩,hc h2,rfl⟩
  exact⟨3,i+1,⟨_,_,_,_,_,rfl,rfl,rfl,rfl,rfl,by simp⟩,hc h1,rfl⟩
 exact⟨2,i+1,⟨_,_,_,_,_,rfl,rfl,rfl,rfl,rfl,by simp⟩,hc h0,rfl⟩
attribute [local irreducible] W RW RR
def xaP:=c5 zF zG zP zE (c5 zC zB zO zK (c5 zR yV xC zV (c5 zU zM yR vB (c5 zAQ zAG zI xY (c5 zDo kJ zBA zBF (c5 zBj zBT zBX zBL (c3 zAL zCr zLc)))))))
def yAH {nl cl:Bool} {L:List Tok} (hL:L.length<4000000000) {i n:Nat} (hi:i≤L.length) {op:Int} {j:Nat} (hh:sgC L i op j) (hj:j≤L.length) (he:(zH L j).2.2=0) (hA:anyX L i=false) (hB:notX L i=false) (hC:xQ L i=false) :
  ∃o h',Om CC 78 [.box 0 0] (ru (.sl nl cl (L.map Tok.c)) i n [])=some (o,h')∧RUo (.sl nl cl (L.map Tok.c)) [] (cmpX L op (plW L i) j n []) o h':=by
 have a1:=uis0 nl cl L i n [] [45] (by omega);have a2:=zEQ nl cl L hL i n [] hi;have b1:=uis0 nl cl L i n [] [110,111,116] (by omega);have b2:Om CC 79 [.box 0 0,.t (.int .i64 1),.t (.sl false false [[.str [40]]])] (ru (.sl nl cl (L.map Tok.c)) i n [])=some (.val (.t (.bool (isW L (i+1) [40]))),ru (.sl nl cl (L.map Tok.c)) i n []):=uis1 nl cl L i n [] 1 [40] (by omega);have c1:=zE2 nl cl L hL i n [] hi;have hk:=kO nl cl L i n [];rw[hC] at c1;unfold anyX bne at hA;unfold notX at hB;have hp:isW L i [45]=false∨(isW L i [45]=true∧((zH L i).2.2==0)=true):=by
  generalize isW L i [45]=qa at *;generalize ((zH L i).2.2==0)=qb at *;cases qa<;>cases qb<;>simp_all
 have hq:isW L i [110,111,116]=false∨(isW L i [110,111,116]=true∧isW L (i+1) [40]=false):=by
  generalize isW L i [110,111,116]=qc at *;generalize isW L (i+1) [40]=qd at *;cases qc<;>cases qd<;>simp_all
 clear hA hB hC;have hm:(plW L i).1=(plW L i).1:=rfl;have hn:(plW L i).2=(plW L i).2:=rfl;generalize hm:(plW L i).1=p1 at a1 a2 b1 b2 c1 hk;generalize hn:(plW L i).2=p2 at a1 a2 b1 b2 c1 hk;generalize hl:Tree.sl nl cl (L.map Tok.c)=l at *;have hu:=Hid.mk fun w=>uis0 nl cl L i n [] w (by omega)
 have hb:=Hid.mk (zFD nl cl L hL j n [] hj);have hd:=Hid.mk (zHb nl cl L hL j n [] hj);have ho:=Hid.mk fun x=>zBp (.sl nl cl (L.map Tok.c)) (zH L j).2.1 n [] x (by decide)
 rw[hl] at hu hb hd ho;have hw:=wI64 i (by omega)
 (have F_:=xaP)
 simp only[ru,ruT,ruR] at a1 a2 b1 b2 c1 hk;obtain⟨w0,w1,w2,w3,w4,u0,u1,u2,u3,u4,hh⟩:=hh;have h0:=hu.h [61];have h1:=hu.h [60];have h2:=hu.h [60,61];have h3:=hu.h [62];have h4:=hu.h [62,61];rw[u0] at h0;rw[u1] at h1;rw[u2] at h2;rw[u3] at h3;rw[u4] at h4;simp only[ru,ruT,ruR] at h0 h1 h2 h3 h4;have sg:=zFv;have s0:=sgn0;have s1:=sgn1;have s2:=sgn2;have s3:=sgn3;have s4:=sgn4;have k1:IntKind.i64.wrap (0+1)=1:=rfl;have k2:IntKind.i64.wrap (1+1)=2:=rfl;have k3:IntKind.i64.wrap (2+1)=3:=rfl;have k4:IntKind.i64.wrap (3+1)=4:=rfl;have k5:IntKind.i64.wrap (4+1)=5:=rfl;unfold cmpX;have ha:=ho.h (xK op (zH L j).1 [] false false [] (plW L i));rw[zCJ] at ha;rw[hm,hn] at ha;simp only[wJ,List.isEmpty_nil,xE,List.map_nil] at ha;generalize xK op (zH L j).1 [] false false [] (plW L i)=N at *;have hb:=hb.h;have hd:=hd.h;generalize zH L j=r at *;obtain⟨NN,j2,e2⟩:=r;have he:e2=0:=he;dsimp only[wJ] at hb hd ha ⊢;clear hu ho hm hn hl hj u0 u1 u2 u3 u4;generalize isW L i [45]=qa at *;generalize ((zH L i).2.2==0)=qb at *;generalize isW L i [110,111,116]=qc at *;generalize isW L (i+1) [40]=qd at *;rw[if_pos he];have hx:=hb he;clear hb hd;subst he
 try simp only[wJ] at hx
 generalize NN.map Node.c=A at *;generalize NN.isEmpty=ne at *;simp only[ru,ruT,ruR,List.nil_append,List.cons_append] at hx ha ⊢;generalize hf:List.map Test.c _=E1 at ha;have hf:=Hid.mk hf;refine xU zBs rfl ?_ (by kernel_rfl)
 (simp only[zT,List.length_cons,List.length_nil,Nat.zero_add,Nat.reduceAdd];show W CC _ 132 (zA 78) _ _ _)
 rcases hp with rfl|⟨rfl,rfl⟩<;>rcases hq with rfl|⟨rfl,rfl⟩
 all_goals (refine gA ?_)<;>rcases hh with ⟨rfl,rfl,rfl⟩|⟨rfl,rfl,rfl,rfl⟩|⟨rfl,rfl,rfl,rfl,rfl⟩|⟨rfl,rfl,rfl,rfl,rfl,rfl⟩|⟨rfl,rfl,rfl,rfl,rfl,rfl,rfl⟩|⟨rfl,rfl,rfl,rfl,rfl,rfl,rfl⟩<;>(repeat' first|refine gA ?_|refine gT ?_ ?_<;>intro hv<;>try cases hv;done|refine aI ?_|fail)<;>(refine aJ ?_;have hf:=hf.h;subst hf;exact⟨rfl,rfl⟩)
end Go.Ab
