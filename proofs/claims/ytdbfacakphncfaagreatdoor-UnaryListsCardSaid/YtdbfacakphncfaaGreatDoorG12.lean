/- Lemmas. -/
import Derived.Test.YtdbfacakphncfaaGreatDoorG11
set_option maxRecDepth 1000000
set_option maxHeartbeats 4000000
set_option linter.unusedSimpArgs false
set_option linter.unusedVariables false
namespace Go.Ab
open Go.Proofs
theorem zIT:Om CC 49 [] []=some (.val (.t (.agg [.str [61],.int .u8 2,.int .u8 7,.str [60],.int .u8 3,.int .u8 9,.str [60,61],.int .u8 4,.int .u8 10,.str [62],.int .u8 5,.int .u8 11,.str [62,61],.int .u8 6,.int .u8 12])),[]):=zAP (n:=20) (by kernel_rfl)
theorem sgn0:index Tryz.prog 111 (.t (.agg [.str [61],.int .u8 2,.int .u8 7,.str [60],.int .u8 3,.int .u8 9,.str [60,61],.int .u8 4,.int .u8 10,.str [62],.int .u8 5,.int .u8 11,.str [62,61],.int .u8 6,.int .u8 12])) 0=some (.t (.agg [.str [61],.int .u8 2,.int .u8 7])):=by kernel_rfl
theorem sgn1:index Tryz.prog 111 (.t (.agg [.str [61],.int .u8 2,.int .u8 7,.str [60],.int .u8 3,.int .u8 9,.str [60,61],.int .u8 4,.int .u8 10,.str [62],.int .u8 5,.int .u8 11,.str [62,61],.int .u8 6,.int .u8 12])) 1=some (.t (.agg [.str [60],.int .u8 3,.int .u8 9])):=by kernel_rfl
theorem sgn2:index Tryz.prog 111 (.t (.agg [.str [61],.int .u8 2,.int .u8 7,.str [60],.int .u8 3,.int .u8 9,.str [60,61],.int .u8 4,.int .u8 10,.str [62],.int .u8 5,.int .u8 11,.str [62,61],.int .u8 6,.int .u8 12])) 2=some (.t (.agg [.str [60,61],.int .u8 4,.int .u8 10])):=by kernel_rfl
theorem sgn3:index Tryz.prog 111 (.t (.agg [.str [61],.int .u8 2,.int .u8 7,.str [60],.int .u8 3,.int .u8 9,.str [60,61],.int .u8 4,.int .u8 10,.str [62],.int .u8 5,.int .u8 11,.str [62,61],.int .u8 6,.int .u8 12])) 3=some (.t (.agg [.str [62],.int .u8 5,.int .u8 11])):=by kernel_rfl
theorem sgn4:index Tryz.prog 111 (.t (.agg [.str [61],.int .u8 2,.int .u8 7,.str [60],.int .u8 3,.int .u8 9,.str [60,61],.int .u8 4,.int .u8 10,.str [62],.int .u8 5,.int .u8 11,.str [62,61],.int .u8 6,.int .u8 12])) 4=some (.t (.agg [.str [62,61],.int .u8 6,.int .u8 12])):=by kernel_rfl
def zOZ(k0:Nat)(H:Nat→Heap)(e:Ex)(st:St):Prop:=e=.normal∧∃v G,st.h=H v++G∧Ab.get st.T 0=.box 0 0∧Ab.get st.T 3=.box k0 0∧Ab.get st.T 132=.unk
theorem zUa {nl cl:Bool} {L:List Tok} (hL:L.length<4000000000) {i n:Nat} {T:List Test} (hi:i≤L.length) (hT:T.length<4294967295) (hA:anyX L i=false) (hB:notX L i=false) (hC:vZ L i=false) :
  ∃o h',Om CC 78 [.box 0 0] (ru (.sl nl cl (L.map Tok.c)) i n T)=some (o,h')∧RUo (.sl nl cl (L.map Tok.c)) T (match wQ L i wV with
   |some op=>cmpX L op (plW L i) (i+1) n T
   |none=>cmpX L 2 (plW L i) i n T) o h':=by
 have a1:=uis0 nl cl L i n T [45] (by omega);have a2:=zKf nl cl L hL i n T hi;have b1:=uis0 nl cl L i n T [110,111,116] (by omega);have b2:Om CC 79 [.box 0 0,.t (.int .i64 1),.t (.sl false false [[.str [40]]])] (ru (.sl nl cl (L.map Tok.c)) i n T)=some (.val (.t (.bool (isW L (i+1) [40]))),ru (.sl nl cl (L.map Tok.c)) i n T):=uis1 nl cl L i n T 1 [40] (by omega);have c1:=zJh nl cl L hL i n T hi;have hpl:=zAw nl cl L i n T;rw[hC] at c1;unfold anyX bne at hA;unfold notX at hB;have hA':isW L i [45]=false∨(isW L i [45]=true∧((zG L i).2.2==0)=true):=by
  generalize isW L i [45]=qa at *;generalize ((zG L i).2.2==0)=qb at *;cases qa<;>cases qb<;>simp_all
 have hB':isW L i [110,111,116]=false∨(isW L i [110,111,116]=true∧isW L (i+1) [40]=false):=by
  generalize isW L i [110,111,116]=qc at *;generalize isW L (i+1) [40]=qd at *;cases qc<;>cases qd<;>simp_all
 clear hA hB hC;have hp1:(plW L i).1=(plW L i).1:=rfl;have hp2:(plW L i).2=(plW L i).2:=rfl;generalize hp1:(plW L i).1=p1 at a1 a2 b1 b2 c1 hpl;generalize hp2:(plW L i).2=p2 at a1 a2 b1 b2 c1 hpl;generalize hl:Tree.sl nl cl (L.map Tok.c)=l at *
 (have F_:=c5 zK zO zR zL (c5 zI zH yA zS (c5 yB xX kH yG (c5 yF zY xP uE (c5 zBI zBy zQ vG (c5 zDU zAe zCL zCj (c5 zCC zBJ zCg zCi (c3 zA6 zDf zUt))))))))
 have y0:=@zBJ;rcases T with _|⟨t0,T0⟩
 ·simp only[ru,ruT,ruR] at a1 a2 b1 b2 c1 hpl
  show ∃o h,Om CC _ _ [.box [.t l,.t (.int .i64 (i:Int)),.t (.int .i64 (n:Int)),.t (.sl true true [])]]=_∧_
  skip
  refine wS zBB rfl ?_ (by kernel_rfl)
  (simp only[zT,List.length_cons,List.length_nil,Nat.zero_add];show W CC _ 132 (zE 78) _ _ _)
  refine uD ?_;refine aB ?_;refine aE ?_
  with_reducible apply aA
  with_reducible apply aA
  with_reducible apply aA
  refine uD ?_;refine aB ?_;refine aE ?_
  with_reducible apply aA
  with_reducible apply aA
  with_reducible apply aA
  refine uD (W.mono (Q:=zOZ 1 (fun _=>[.box [.t l,.t (.int .i64 (i:Int)),.t (.int .i64 (n:Int)),.t (.sl true true [])],.box [.t (.int .u8 2),.t (.sl true true []),.t (.sl true true []),.t (.bool false),.t (.bool false),.t (.sl true true []),.t (.int .i64 p1),.t (.int .i64 p2)]])) ?_ ?_)
  ·clear hp1 hp2 hl;generalize isW L i [45]=qa at *;generalize ((zG L i).2.2==0)=qb at *;generalize isW L i [110,111,116]=qc at *;generalize isW L (i+1) [40]=qd at *;rcases hA' with rfl|⟨rfl,rfl⟩<;>rcases hB' with rfl|⟨rfl,rfl⟩
   all_goals (with_reducible repeat' first|apply aA|refine aB ?_|refine aC ?_|refine aD ?_|(first|apply zB|apply zA|apply zC|apply zD)<;>intro hg<;>try with_unfolding_all cases hg;done|refine aE ?_|refine aF ?_|refine aG ?_|refine aH ?_ ?_<;>intro hv<;>try with_unfolding_all cases hv;done)
   all_goals exact⟨rfl,0,_,rfl,rfl,rfl,rfl⟩
  rintro e ⟨T9,h9⟩ ⟨rfl,v9,G,rfl,g0,g3,g132⟩;dsimp only at g0 g3 g132;clear a1 a2 b1 b2 c1 hpl hA' hB';have sg:=zIT;have s0:=sgn0;have s1:=sgn1;have s2:=sgn2;have s3:=sgn3;have s4:=sgn4;have k1:IntKind.i64.wrap (0+1)=1:=rfl;have k2:IntKind.i64.wrap (1+1)=2:=rfl;have k3:IntKind.i64.wrap (2+1)=3:=rfl;have k4:IntKind.i64.wrap (3+1)=4:=rfl;have k5:IntKind.i64.wrap (4+1)=5:=rfl;have hw:IntKind.i64.wrap ((i:Int)+1)=((i+1:Nat):Int):=by rw[wrap64]<;>omega
  (with_reducible repeat' first|apply aA|refine aB ?_|refine aC ?_|refine aD ?_|(first|apply zB|apply zA|apply zC|apply zD)<;>intro hg<;>try with_unfolding_all cases hg;done|refine aE ?_|refine aF ?_|refine aG ?_|refine aH ?_ ?_<;>intro hv<;>try with_unfolding_all cases hv;done)
  have v1:Nat.beq v9 v9=true:=Nat.beq_refl v9;have v2:decide (v9=v9)=true:=decide_eq_true rfl;refine aI ?_ (by(simp only[yD,zU,F_,tidy,xJ,canon,reach,yK,refs,xH,catMap,depth,renL,ren,renO,sub,sub1,upto,mem,place,fresh,cond_true,Ab.get,nth,List.map,List.zip_cons_cons,List.zip_nil_right,List.take,List.append_nil,List.nil_append,List.cons_append,yM,decide_true,decide_false,Nat.reduceEqDiff,g0,g3,g132]<;>exact rfl));clear v1 v2;clear g0 g3 g132;have u0:=uis0 nl cl L i n [] [61] (by omega);rw[hl] at u0;simp only[ru,ruT,ruR] at u0
  skip
  cases w0:isW L i [61] with
  |true =>
   rw[w0] at u0;have hlt:=yC w0;have hs:wQ L i wV=some 2:=by simp only[wQ,wV,w0];rfl
   rw[hs];dsimp only;clear hs;unfold cmpX
   by_cases he:(zG L (i+1)).2.2=0
   ·rw[if_pos he];have hx:=qU nl cl L hL (i+1) n [] hlt he;have hle:=vE (l:=L) (i:=(i+1)) hlt;have hnode:=uA (.sl nl cl (L.map Tok.c)) (zG L (i+1)).2.1 n [] (yY 2 (zG L (i+1)).1 [] false false [] (plW L i)) hT;rw[qD] at hnode;simp only[vT,List.isEmpty_nil,xU,List.map_nil] at hnode hx;rw[hl] at hnode hx;generalize yY 2 (zG L (i+1)).1 [] false false [] (plW L i)=N at *;generalize (zG L (i+1))=r at *;obtain⟨NN,j2,e2⟩:=r;dsimp only at *;subst he;generalize NN.map Node.c=A at *;generalize NN.isEmpty=ne at *;simp only[ru,ruT,ruR,List.nil_append] at hx hnode ⊢;rw[hp1,hp2] at hnode;clear hp1 hp2 hT hle hl;generalize hE1:[N].map Test.c=E1 at hnode
    skip
    have hE1':=Hid.mk hE1;clear hE1
    (with_reducible repeat' first|apply aA|refine aB ?_|refine aC ?_|refine aD ?_|(first|apply zB|apply zA|apply zC|apply zD)<;>intro hg<;>try with_unfolding_all cases hg;done|refine aE ?_|refine aF ?_|refine aG ?_|refine aH ?_ ?_<;>intro hv<;>try with_unfolding_all cases hv;done)
    refine aJ ?_;have hE1:=hE1'.h;subst hE1;exact⟨rfl,rfl⟩
   rw[if_neg he];have hx:=kD nl cl L hL (i+1) n [] hlt he;rw[hl] at hx;generalize (zG L (i+1))=r at *;obtain⟨NN,j2,e2⟩:=r;dsimp only at hx ⊢;have hf:∀x:Heap,x=ru l j2 n []→RUo l [] (.pan e2 j2) (.pan (.t (ustop j2 e2))) x:=fun x h=>⟨rfl,n,[],h,fun h=>h⟩
   simp only[ustop] at hx hf;simp only[ru,ruT,ruR] at hx hf;clear hp1 hp2 hT hl he
   skip
   (with_reducible repeat' first|apply aA|refine aB ?_|refine aC ?_|refine aD ?_|(first|apply zB|apply zA|apply zC|apply zD)<;>intro hg<;>try with_unfolding_all cases hg;done|refine aE ?_|refine aF ?_|refine aG ?_|refine aH ?_ ?_<;>intro hv<;>try with_unfolding_all cases hv;done)
   refine aM ?_;exact hf _ rfl
  |false =>
  rw[w0] at u0
  (with_reducible repeat' first|apply aA|refine aB ?_|refine aC ?_|refine aD ?_|(first|apply zB|apply zA|apply zC|apply zD)<;>intro hg<;>try with_unfolding_all cases hg;done|refine aE ?_|refine aF ?_|refine aG ?_|refine aH ?_ ?_<;>intro hv<;>try with_unfolding_all cases hv;done)
  (refine aI ?_)
  clear u0;have u1:=uis0 nl cl L i n [] [60] (by omega);rw[hl] at u1;simp only[ru,ruT,ruR] at u1
  skip
  cases w1:isW L i [60] with
  |true =>
   rw[w1] at u1;have hlt:=yC w1;have hs:wQ L i wV=some 3:=by simp only[wQ,wV,w0,w1];rfl
   rw[hs];dsimp only;clear hs;unfold cmpX
   by_cases he:(zG L (i+1)).2.2=0
   ·rw[if_pos he];have hx:=qU nl cl L hL (i+1) n [] hlt he;have hle:=vE (l:=L) (i:=(i+1)) hlt;have hnode:=uA (.sl nl cl (L.map Tok.c)) (zG L (i+1)).2.1 n [] (yY 3 (zG L (i+1)).1 [] false false [] (plW L i)) hT;rw[qD] at hnode;simp only[vT,List.isEmpty_nil,xU,List.map_nil] at hnode hx;rw[hl] at hnode hx;generalize yY 3 (zG L (i+1)).1 [] false false [] (plW L i)=N at *;generalize (zG L (i+1))=r at *;obtain⟨NN,j2,e2⟩:=r;dsimp only at *;subst he;generalize NN.map Node.c=A at *;generalize NN.isEmpty=ne at *;simp only[ru,ruT,ruR,List.nil_append] at hx hnode ⊢;rw[hp1,hp2] at hnode;clear hp1 hp2 hT hle hl;generalize hE1:[N].map Test.c=E1 at hnode
    skip
    have hE1':=Hid.mk hE1;clear hE1
    (with_reducible repeat' first|apply aA|refine aB ?_|refine aC ?_|refine aD ?_|(first|apply zB|apply zA|apply zC|apply zD)<;>intro hg<;>try with_unfolding_all cases hg;done|refine aE ?_|refine aF ?_|refine aG ?_|refine aH ?_ ?_<;>intro hv<;>try with_unfolding_all cases hv;done)
    refine aJ ?_;have hE1:=hE1'.h;subst hE1;exact⟨rfl,rfl⟩
   rw[if_neg he];have hx:=kD nl cl L hL (i+1) n [] hlt he;rw[hl] at hx;generalize (zG L (i+1))=r at *;obtain⟨NN,j2,e2⟩:=r;dsimp only at hx ⊢;have hf:∀x:Heap,x=ru l j2 n []→RUo l [] (.pan e2 j2) (.pan (.t (ustop j2 e2))) x:=fun x h=>⟨rfl,n,[],h,fun h=>h⟩
   simp only[ustop] at hx hf;simp only[ru,ruT,ruR] at hx hf;clear hp1 hp2 hT hl he
   skip
   (with_reducible repeat' first|apply aA|refine aB ?_|refine aC ?_|refine aD ?_|(first|apply zB|apply zA|apply zC|apply zD)<;>intro hg<;>try with_unfolding_all cases hg;done|refine aE ?_|refine aF ?_|refine aG ?_|refine aH ?_ ?_<;>intro hv<;>try with_unfolding_all cases hv;done)
   refine aM ?_;exact hf _ rfl
  |false =>
  rw[w1] at u1
  (with_reducible repeat' first|apply aA|refine aB ?_|refine aC ?_|refine aD ?_|(first|apply zB|apply zA|apply zC|apply zD)<;>intro hg<;>try with_unfolding_all cases hg;done|refine aE ?_|refine aF ?_|refine aG ?_|refine aH ?_ ?_<;>intro hv<;>try with_unfolding_all cases hv;done)
  (refine aI ?_)
  clear u1;have u2:=uis0 nl cl L i n [] [60,61] (by omega);rw[hl] at u2;simp only[ru,ruT,ruR] at u2
  skip
  cases w2:isW L i [60,61] with
  |true =>
   rw[w2] at u2;have hlt:=yC w2;have hs:wQ L i wV=some 4:=by simp only[wQ,wV,w0,w1,w2];rfl
   rw[hs];dsimp only;clear hs;unfold cmpX
   by_cases he:(zG L (i+1)).2.2=0
   ·rw[if_pos he];have hx:=qU nl cl L hL (i+1) n [] hlt he;have hle:=vE (l:=L) (i:=(i+1)) hlt;have hnode:=uA (.sl nl cl (L.map Tok.c)) (zG L (i+1)).2.1 n [] (yY 4 (zG L (i+1)).1 [] false false [] (plW L i)) hT;rw[qD] at hnode;simp only[vT,List.isEmpty_nil,xU,List.map_nil] at hnode hx;rw[hl] at hnode hx;generalize yY 4 (zG L (i+1)).1 [] false false [] (plW L i)=N at *;generalize (zG L (i+1))=r at *;obtain⟨NN,j2,e2⟩:=r;dsimp only at *;subst he;generalize NN.map Node.c=A at *;generalize NN.isEmpty=ne at *;simp only[ru,ruT,ruR,List.nil_append] at hx hnode ⊢;rw[hp1,hp2] at hnode;clear hp1 hp2 hT hle hl;generalize hE1:[N].map Test.c=E1 at hnode
    skip
    have hE1':=Hid.mk hE1;clear hE1
    (with_reducible repeat' first|apply aA|refine aB ?_|refine aC ?_|refine aD ?_|(first|apply zB|apply zA|apply zC|apply zD)<;>intro hg<;>try with_unfolding_all cases hg;done|refine aE ?_|refine aF ?_|refine aG ?_|refine aH ?_ ?_<;>intro hv<;>try with_unfolding_all cases hv;done)
    refine aJ ?_;have hE1:=hE1'.h;subst hE1;exact⟨rfl,rfl⟩
   rw[if_neg he];have hx:=kD nl cl L hL (i+1) n [] hlt he;rw[hl] at hx;generalize (zG L (i+1))=r at *;obtain⟨NN,j2,e2⟩:=r;dsimp only at hx ⊢;have hf:∀x:Heap,x=ru l j2 n []→RUo l [] (.pan e2 j2) (.pan (.t (ustop j2 e2))) x:=fun x h=>⟨rfl,n,[],h,fun h=>h⟩
   simp only[ustop] at hx hf;simp only[ru,ruT,ruR] at hx hf;clear hp1 hp2 hT hl he
   skip
   (with_reducible repeat' first|apply aA|refine aB ?_|refine aC ?_|refine aD ?_|(first|apply zB|apply zA|apply zC|apply zD)<;>intro hg<;>try with_unfolding_all cases hg;done|refine aE ?_|refine aF ?_|refine aG ?_|refine aH ?_ ?_<;>intro hv<;>try with_unfolding_all cases hv;done)
   refine aM ?_;exact hf _ rfl
  |false =>
  rw[w2] at u2
  (with_reducible repeat' first|apply aA|refine aB ?_|refine aC ?_|refine aD ?_|(first|apply zB|apply zA|apply zC|apply zD)<;>intro hg<;>try with_unfolding_all cases hg;done|refine aE ?_|refine aF ?_|refine aG ?_|refine aH ?_ ?_<;>intro hv<;>try with_unfolding_all cases hv;done)
  (refine aI ?_)
  clear u2;have u3:=uis0 nl cl L i n [] [62] (by omega);rw[hl] at u3;simp only[ru,ruT,ruR] at u3
  skip
  cases w3:isW L i [62] with
  |true =>
   rw[w3] at u3;have hlt:=yC w3;have hs:wQ L i wV=some 5:=by simp only[wQ,wV,w0,w1,w2,w3];rfl
   rw[hs];dsimp only;clear hs;unfold cmpX
   by_cases he:(zG L (i+1)).2.2=0
   ·rw[if_pos he];have hx:=qU nl cl L hL (i+1) n [] hlt he;have hle:=vE (l:=L) (i:=(i+1)) hlt;have hnode:=uA (.sl nl cl (L.map Tok.c)) (zG L (i+1)).2.1 n [] (yY 5 (zG L (i+1)).1 [] false false [] (plW L i)) hT;rw[qD] at hnode;simp only[vT,List.isEmpty_nil,xU,List.map_nil] at hnode hx;rw[hl] at hnode hx;generalize yY 5 (zG L (i+1)).1 [] false false [] (plW L i)=N at *;generalize (zG L (i+1))=r at *;obtain⟨NN,j2,e2⟩:=r;dsimp only at *;subst he;generalize NN.map Node.c=A at *;generalize NN.isEmpty=ne at *;simp only[ru,ruT,ruR,List.nil_append] at hx hnode ⊢;rw[hp1,hp2] at hnode;clear hp1 hp2 hT hle hl;generalize hE1:[N].map Test.c=E1 at hnode
    skip
    have hE1':=Hid.mk hE1;clear hE1
    (with_reducible repeat' first|apply aA|refine aB ?_|refine aC ?_|refine aD ?_|(first|apply zB|apply zA|apply zC|apply zD)<;>intro hg<;>try with_unfolding_all cases hg;done|refine aE ?_|refine aF ?_|refine aG ?_|refine aH ?_ ?_<;>intro hv<;>try with_unfolding_all cases hv;done)
    refine aJ ?_;have hE1:=hE1'.h;subst hE1;exact⟨rfl,rfl⟩
   rw[if_neg he];have hx:=kD nl cl L hL (i+1) n [] hlt he;rw[hl] at hx;generalize (zG L (i+1))=r at *;obtain⟨NN,j2,e2⟩:=r;dsimp only at hx ⊢;have hf:∀x:Heap,x=ru l j2 n []→RUo l [] (.pan e2 j2) (.pan (.t (ustop j2 e2))) x:=fun x h=>⟨rfl,n,[],h,fun h=>h⟩
   simp only[ustop] at hx hf;simp only[ru,ruT,ruR] at hx hf;clear hp1 hp2 hT hl he
   skip
   (with_reducible repeat' first|apply aA|refine aB ?_|refine aC ?_|refine aD ?_|(first|apply zB|apply zA|apply zC|apply zD)<;>intro hg<;>try with_unfolding_all cases hg;done|refine aE ?_|refine aF ?_|refine aG ?_|refine aH ?_ ?_<;>intro hv<;>try with_unfolding_all cases hv;done)
   refine aM ?_;exact hf _ rfl
  |false =>
  rw[w3] at u3
  (with_reducible repeat' first|apply aA|refine aB ?_|refine aC ?_|refine aD ?_|(first|apply zB|apply zA|apply zC|apply zD)<;>intro hg<;>try with_unfolding_all cases hg;done|refine aE ?_|refine aF ?_|refine aG ?_|refine aH ?_ ?_<;>intro hv<;>try with_unfolding_all cases hv;done)
  (refine aI ?_)
  clear u3;have u4:=uis0 nl cl L i n [] [62,61] (by omega);rw[hl] at u4;simp only[ru,ruT,ruR] at u4
  skip
  cases w4:isW L i [62,61] with
  |true =>
   rw[w4] at u4;have hlt:=yC w4;have hs:wQ L i wV=some 6:=by simp only[wQ,wV,w0,w1,w2,w3,w4];rfl
   rw[hs];dsimp only;clear hs;unfold cmpX
   by_cases he:(zG L (i+1)).2.2=0
   ·rw[if_pos he];have hx:=qU nl cl L hL (i+1) n [] hlt he;have hle:=vE (l:=L) (i:=(i+1)) hlt;have hnode:=uA (.sl nl cl (L.map Tok.c)) (zG L (i+1)).2.1 n [] (yY 6 (zG L (i+1)).1 [] false false [] (plW L i)) hT;rw[qD] at hnode;simp only[vT,List.isEmpty_nil,xU,List.map_nil] at hnode hx;rw[hl] at hnode hx;generalize yY 6 (zG L (i+1)).1 [] false false [] (plW L i)=N at *;generalize (zG L (i+1))=r at *;obtain⟨NN,j2,e2⟩:=r;dsimp only at *;subst he;generalize NN.map Node.c=A at *;generalize NN.isEmpty=ne at *;simp only[ru,ruT,ruR,List.nil_append] at hx hnode ⊢;rw[hp1,hp2] at hnode;clear hp1 hp2 hT hle hl;generalize hE1:[N].map Test.c=E1 at hnode
    skip
    have hE1':=Hid.mk hE1;clear hE1
    (with_reducible repeat' first|apply aA|refine aB ?_|refine aC ?_|refine aD ?_|(first|apply zB|apply zA|apply zC|apply zD)<;>intro hg<;>try with_unfolding_all cases hg;done|refine aE ?_|refine aF ?_|refine aG ?_|refine aH ?_ ?_<;>intro hv<;>try with_unfolding_all cases hv;done)
    refine aJ ?_;have hE1:=hE1'.h;subst hE1;exact⟨rfl,rfl⟩
   rw[if_neg he];have hx:=kD nl cl L hL (i+1) n [] hlt he;rw[hl] at hx;generalize (zG L (i+1))=r at *;obtain⟨NN,j2,e2⟩:=r;dsimp only at hx ⊢;have hf:∀x:Heap,x=ru l j2 n []→RUo l [] (.pan e2 j2) (.pan (.t (ustop j2 e2))) x:=fun x h=>⟨rfl,n,[],h,fun h=>h⟩
   simp only[ustop] at hx hf;simp only[ru,ruT,ruR] at hx hf;clear hp1 hp2 hT hl he
   skip
   (with_reducible repeat' first|apply aA|refine aB ?_|refine aC ?_|refine aD ?_|(first|apply zB|apply zA|apply zC|apply zD)<;>intro hg<;>try with_unfolding_all cases hg;done|refine aE ?_|refine aF ?_|refine aG ?_|refine aH ?_ ?_<;>intro hv<;>try with_unfolding_all cases hv;done)
   refine aM ?_;exact hf _ rfl
  |false =>
  rw[w4] at u4
  (with_reducible repeat' first|apply aA|refine aB ?_|refine aC ?_|refine aD ?_|(first|apply zB|apply zA|apply zC|apply zD)<;>intro hg<;>try with_unfolding_all cases hg;done|refine aE ?_|refine aF ?_|refine aG ?_|refine aH ?_ ?_<;>intro hv<;>try with_unfolding_all cases hv;done)
  (refine aI ?_)
  clear u4;have hs:wQ L i wV=none:=by simp only[wQ,wV,w0,w1,w2,w3,w4];rfl
  rw[hs];dsimp only;clear hs;unfold cmpX
  by_cases he:(zG L i).2.2=0
  ·rw[if_pos he];have hx:=qU nl cl L hL i n [] hi he;have hle:=vE (l:=L) (i:=i) hi;have hnode:=uA (.sl nl cl (L.map Tok.c)) (zG L i).2.1 n [] (yY 2 (zG L i).1 [] false false [] (plW L i)) hT;rw[qD] at hnode;simp only[vT,List.isEmpty_nil,xU,List.map_nil] at hnode hx;rw[hl] at hnode hx;generalize yY 2 (zG L i).1 [] false false [] (plW L i)=N at *;generalize (zG L i)=r at *;obtain⟨NN,j2,e2⟩:=r;dsimp only at *;subst he;generalize NN.map Node.c=A at *;generalize NN.isEmpty=ne at *;simp only[ru,ruT,ruR,List.nil_append] at hx hnode ⊢;rw[hp1,hp2] at hnode;clear hp1 hp2 hT hle hl;generalize hE1:[N].map Test.c=E1 at hnode
   skip
   have hE1':=Hid.mk hE1;clear hE1
   (with_reducible repeat' first|apply aA|refine aB ?_|refine aC ?_|refine aD ?_|(first|apply zB|apply zA|apply zC|apply zD)<;>intro hg<;>try with_unfolding_all cases hg;done|refine aE ?_|refine aF ?_|refine aG ?_|refine aH ?_ ?_<;>intro hv<;>try with_unfolding_all cases hv;done)
   refine aJ ?_;have hE1:=hE1'.h;subst hE1;exact⟨rfl,rfl⟩
  rw[if_neg he];have hx:=kD nl cl L hL i n [] hi he;rw[hl] at hx;generalize (zG L i)=r at *;obtain⟨NN,j2,e2⟩:=r;dsimp only at hx ⊢;have hf:∀x:Heap,x=ru l j2 n []→RUo l [] (.pan e2 j2) (.pan (.t (ustop j2 e2))) x:=fun x h=>⟨rfl,n,[],h,fun h=>h⟩
  simp only[ustop] at hx hf;simp only[ru,ruT,ruR] at hx hf;clear hp1 hp2 hT hl he
  skip
  (with_reducible repeat' first|apply aA|refine aB ?_|refine aC ?_|refine aD ?_|(first|apply zB|apply zA|apply zC|apply zD)<;>intro hg<;>try with_unfolding_all cases hg;done|refine aE ?_|refine aF ?_|refine aG ?_|refine aH ?_ ?_<;>intro hv<;>try with_unfolding_all cases hv;done)
  refine aM ?_;exact hf _ rfl
 simp only[ru,ruT,ruR] at a1 a2 b1 b2 c1 hpl
 show ∃o h,Om CC _ _ [.box [.t l,.t (.int .i64 (i:Int)),.t (.int .i64 (n:Int)),.hs 1 0],.arr 8 0 false ((t0::T0).map Test.c)]=_∧_
 generalize hE0:(t0::T0).map Test.c=E0 at a1 a2 b1 b2 c1 hpl ⊢;refine wS zBB rfl ?_ (by kernel_rfl)
 (simp only[zT,List.length_cons,List.length_nil,Nat.zero_add,Nat.reduceAdd];show W CC _ 132 (zE 78) _ _ _)
 refine uD ?_;refine aB ?_;refine aE ?_
 with_reducible apply aA
 with_reducible apply aA
 with_reducible apply aA
 refine uD ?_;refine aB ?_;refine aE ?_
 with_reducible apply aA
 with_reducible apply aA
 with_reducible apply aA
 refine uD (W.mono (Q:=zOZ 2 (fun v=>[.box [.t l,.t (.int .i64 (i:Int)),.t (.int .i64 (n:Int)),.hs 1 v],.arr 8 v false E0,.box [.t (.int .u8 2),.t (.sl true true []),.t (.sl true true []),.t (.bool false),.t (.bool false),.t (.sl true true []),.t (.int .i64 p1),.t (.int .i64 p2)]])) ?_ ?_)
 ·clear hp1 hp2 hl hE0;generalize isW L i [45]=qa at *;generalize ((zG L i).2.2==0)=qb at *;generalize isW L i [110,111,116]=qc at *;generalize isW L (i+1) [40]=qd at *;rcases hA' with rfl|⟨rfl,rfl⟩<;>rcases hB' with rfl|⟨rfl,rfl⟩
  all_goals (with_reducible repeat' first|apply aA|refine aB ?_|refine aC ?_|refine aD ?_|(first|apply zB|apply zA|apply zC|apply zD)<;>intro hg<;>try with_unfolding_all cases hg;done|refine aE ?_|refine aF ?_|refine aG ?_|refine aH ?_ ?_<;>intro hv<;>try with_unfolding_all cases hv;done)
  all_goals exact⟨rfl,_,_,rfl,rfl,rfl,rfl⟩
 rintro e ⟨T9,h9⟩ ⟨rfl,v9,G,rfl,g0,g3,g132⟩;dsimp only at g0 g3 g132;clear a1 a2 b1 b2 c1 hpl hA' hB';have sg:=zIT;have s0:=sgn0;have s1:=sgn1;have s2:=sgn2;have s3:=sgn3;have s4:=sgn4;have k1:IntKind.i64.wrap (0+1)=1:=rfl;have k2:IntKind.i64.wrap (1+1)=2:=rfl;have k3:IntKind.i64.wrap (2+1)=3:=rfl;have k4:IntKind.i64.wrap (3+1)=4:=rfl;have k5:IntKind.i64.wrap (4+1)=5:=rfl;have hw:IntKind.i64.wrap ((i:Int)+1)=((i+1:Nat):Int):=by rw[wrap64]<;>omega
 (with_reducible repeat' first|apply aA|refine aB ?_|refine aC ?_|refine aD ?_|(first|apply zB|apply zA|apply zC|apply zD)<;>intro hg<;>try with_unfolding_all cases hg;done|refine aE ?_|refine aF ?_|refine aG ?_|refine aH ?_ ?_<;>intro hv<;>try with_unfolding_all cases hv;done)
 have v1:Nat.beq v9 v9=true:=Nat.beq_refl v9;have v2:decide (v9=v9)=true:=decide_eq_true rfl;refine aI ?_ (by(simp only[yD,zU,F_,tidy,xJ,canon,reach,yK,refs,xH,catMap,depth,renL,ren,renO,sub,sub1,upto,mem,place,fresh,cond_true,Ab.get,nth,List.map,List.zip_cons_cons,List.zip_nil_right,List.take,List.append_nil,List.nil_append,List.cons_append,Bool.and_true,yM,decide_true,decide_false,Nat.reduceEqDiff,g0,g3,g132]<;>exact rfl));clear v1 v2;clear g0 g3 g132;have u0:=uis0 nl cl L i n (t0::T0) [61] (by omega);rw[hl] at u0;simp only[ru,ruT,ruR] at u0;rw[hE0] at u0;cases w0:isW L i [61] with
 |true =>
  rw[w0] at u0;have hlt:=yC w0;have hs:wQ L i wV=some 2:=by simp only[wQ,wV,w0];rfl
  rw[hs];dsimp only;clear hs;unfold cmpX
  by_cases he:(zG L (i+1)).2.2=0
  ·rw[if_pos he];have hx:=qU nl cl L hL (i+1) n (t0::T0) hlt he;have hle:=vE (l:=L) (i:=(i+1)) hlt;have hnode:=uA (.sl nl cl (L.map Tok.c)) (zG L (i+1)).2.1 n (t0::T0) (yY 2 (zG L (i+1)).1 [] false false [] (plW L i)) hT;rw[qD] at hnode;simp only[vT,List.isEmpty_nil,xU,List.map_nil] at hnode hx;rw[hl] at hnode hx;generalize yY 2 (zG L (i+1)).1 [] false false [] (plW L i)=N at *;generalize (zG L (i+1))=r at *;obtain⟨NN,j2,e2⟩:=r;dsimp only at *;subst he;generalize NN.map Node.c=A at *;generalize NN.isEmpty=ne at *;simp only[ru,ruT,ruR,List.cons_append] at hx hnode ⊢;rw[hp1,hp2] at hnode;clear hp1 hp2 hT hle hl;generalize hE1:(t0::(T0++[N])).map Test.c=E1 at hnode;rw[hE0] at hx hnode;clear hE0;generalize (t0::T0).length=lenT at *;have hE1':=Hid.mk hE1;clear hE1
   (with_reducible repeat' first|apply aA|refine aB ?_|refine aC ?_|refine aD ?_|(first|apply zB|apply zA|apply zC|apply zD)<;>intro hg<;>try with_unfolding_all cases hg;done|refine aE ?_|refine aF ?_|refine aG ?_|refine aH ?_ ?_<;>intro hv<;>try with_unfolding_all cases hv;done)
   refine aJ ?_;have hE1:=hE1'.h;subst hE1;exact⟨rfl,rfl⟩
  rw[if_neg he];have hx:=kD nl cl L hL (i+1) n (t0::T0) hlt he;rw[hl] at hx;generalize (zG L (i+1))=r at *;obtain⟨NN,j2,e2⟩:=r;dsimp only at hx ⊢;have hf:∀x:Heap,x=ru l j2 n (t0::T0)→RUo l (t0::T0) (.pan e2 j2) (.pan (.t (ustop j2 e2))) x:=fun x h=>⟨rfl,n,(t0::T0),h,fun h=>h⟩
  simp only[ustop] at hx hf;simp only[ru,ruT,ruR] at hx hf;clear hp1 hp2 hT hl he;rw[hE0] at hx hf;clear hE0
  (with_reducible repeat' first|apply aA|refine aB ?_|refine aC ?_|refine aD ?_|(first|apply zB|apply zA|apply zC|apply zD)<;>intro hg<;>try with_unfolding_all cases hg;done|refine aE ?_|refine aF ?_|refine aG ?_|refine aH ?_ ?_<;>intro hv<;>try with_unfolding_all cases hv;done)
  refine aM ?_;exact hf _ rfl
 |false =>
 rw[w0] at u0
 (with_reducible repeat' first|apply aA|refine aB ?_|refine aC ?_|refine aD ?_|(first|apply zB|apply zA|apply zC|apply zD)<;>intro hg<;>try with_unfolding_all cases hg;done|refine aE ?_|refine aF ?_|refine aG ?_|refine aH ?_ ?_<;>intro hv<;>try with_unfolding_all cases hv;done)
 (refine aI ?_)
 clear u0;have u1:=uis0 nl cl L i n (t0::T0) [60] (by omega);rw[hl] at u1;simp only[ru,ruT,ruR] at u1;rw[hE0] at u1;cases w1:isW L i [60] with
 |true =>
  rw[w1] at u1;have hlt:=yC w1;have hs:wQ L i wV=some 3:=by simp only[wQ,wV,w0,w1];rfl
  rw[hs];dsimp only;clear hs;unfold cmpX
  by_cases he:(zG L (i+1)).2.2=0
  ·rw[if_pos he];have hx:=qU nl cl L hL (i+1) n (t0::T0) hlt he;have hle:=vE (l:=L) (i:=(i+1)) hlt;have hnode:=uA (.sl nl cl (L.map Tok.c)) (zG L (i+1)).2.1 n (t0::T0) (yY 3 (zG L (i+1)).1 [] false false [] (plW L i)) hT;rw[qD] at hnode;simp only[vT,List.isEmpty_nil,xU,List.map_nil] at hnode hx;rw[hl] at hnode hx;generalize yY 3 (zG L (i+1)).1 [] false false [] (plW L i)=N at *;generalize (zG L (i+1))=r at *;obtain⟨NN,j2,e2⟩:=r;dsimp only at *;subst he;generalize NN.map Node.c=A at *;generalize NN.isEmpty=ne at *;simp only[ru,ruT,ruR,List.cons_append] at hx hnode ⊢;rw[hp1,hp2] at hnode;clear hp1 hp2 hT hle hl;generalize hE1:(t0::(T0++[N])).map Test.c=E1 at hnode;rw[hE0] at hx hnode;clear hE0;generalize (t0::T0).length=lenT at *;have hE1':=Hid.mk hE1;clear hE1
   (with_reducible repeat' first|apply aA|refine aB ?_|refine aC ?_|refine aD ?_|(first|apply zB|apply zA|apply zC|apply zD)<;>intro hg<;>try with_unfolding_all cases hg;done|refine aE ?_|refine aF ?_|refine aG ?_|refine aH ?_ ?_<;>intro hv<;>try with_unfolding_all cases hv;done)
   refine aJ ?_;have hE1:=hE1'.h;subst hE1;exact⟨rfl,rfl⟩
  rw[if_neg he];have hx:=kD nl cl L hL (i+1) n (t0::T0) hlt he;rw[hl] at hx;generalize (zG L (i+1))=r at *;obtain⟨NN,j2,e2⟩:=r;dsimp only at hx ⊢;have hf:∀x:Heap,x=ru l j2 n (t0::T0)→RUo l (t0::T0) (.pan e2 j2) (.pan (.t (ustop j2 e2))) x:=fun x h=>⟨rfl,n,(t0::T0),h,fun h=>h⟩
  simp only[ustop] at hx hf;simp only[ru,ruT,ruR] at hx hf;clear hp1 hp2 hT hl he;rw[hE0] at hx hf;clear hE0
  (with_reducible repeat' first|apply aA|refine aB ?_|refine aC ?_|refine aD ?_|(first|apply zB|apply zA|apply zC|apply zD)<;>intro hg<;>try with_unfolding_all cases hg;done|refine aE ?_|refine aF ?_|refine aG ?_|refine aH ?_ ?_<;>intro hv<;>try with_unfolding_all cases hv;done)
  refine aM ?_;exact hf _ rfl
 |false =>
 rw[w1] at u1
 (with_reducible repeat' first|apply aA|refine aB ?_|refine aC ?_|refine aD ?_|(first|apply zB|apply zA|apply zC|apply zD)<;>intro hg<;>try with_unfolding_all cases hg;done|refine aE ?_|refine aF ?_|refine aG ?_|refine aH ?_ ?_<;>intro hv<;>try with_unfolding_all cases hv;done)
 (refine aI ?_)
 clear u1;have u2:=uis0 nl cl L i n (t0::T0) [60,61] (by omega);rw[hl] at u2;simp only[ru,ruT,ruR] at u2;rw[hE0] at u2;cases w2:isW L i [60,61] with
 |true =>
  rw[w2] at u2;have hlt:=yC w2;have hs:wQ L i wV=some 4:=by simp only[wQ,wV,w0,w1,w2];rfl
  rw[hs];dsimp only;clear hs;unfold cmpX
  by_cases he:(zG L (i+1)).2.2=0
  ·rw[if_pos he];have hx:=qU nl cl L hL (i+1) n (t0::T0) hlt he;have hle:=vE (l:=L) (i:=(i+1)) hlt;have hnode:=uA (.sl nl cl (L.map Tok.c)) (zG L (i+1)).2.1 n (t0::T0) (yY 4 (zG L (i+1)).1 [] false false [] (plW L i)) hT;rw[qD] at hnode;simp only[vT,List.isEmpty_nil,xU,List.map_nil] at hnode hx;rw[hl] at hnode hx;generalize yY 4 (zG L (i+1)).1 [] false false [] (plW L i)=N at *;generalize (zG L (i+1))=r at *;obtain⟨NN,j2,e2⟩:=r;dsimp only at *;subst he;generalize NN.map Node.c=A at *;generalize NN.isEmpty=ne at *;simp only[ru,ruT,ruR,List.cons_append] at hx hnode ⊢;rw[hp1,hp2] at hnode;clear hp1 hp2 hT hle hl;generalize hE1:(t0::(T0++[N])).map Test.c=E1 at hnode;rw[hE0] at hx hnode;clear hE0;generalize (t0::T0).length=lenT at *;have hE1':=Hid.mk hE1;clear hE1
   (with_reducible repeat' first|apply aA|refine aB ?_|refine aC ?_|refine aD ?_|(first|apply zB|apply zA|apply zC|apply zD)<;>intro hg<;>try with_unfolding_all cases hg;done|refine aE ?_|refine aF ?_|refine aG ?_|refine aH ?_ ?_<;>intro hv<;>try with_unfolding_all cases hv;done)
   refine aJ ?_;have hE1:=hE1'.h;subst hE1;exact⟨rfl,rfl⟩
  rw[if_neg he];have hx:=kD nl cl L hL (i+1) n (t0::T0) hlt he;rw[hl] at hx;generalize (zG L (i+1))=r at *;obtain⟨NN,j2,e2⟩:=r;dsimp only at hx ⊢;have hf:∀x:Heap,x=ru l j2 n (t0::T0)→RUo l (t0::T0) (.pan e2 j2) (.pan (.t (ustop j2 e2))) x:=fun x h=>⟨rfl,n,(t0::T0),h,fun h=>h⟩
  simp only[ustop] at hx hf;simp only[ru,ruT,ruR] at hx hf;clear hp1 hp2 hT hl he;rw[hE0] at hx hf;clear hE0
  (with_reducible repeat' first|apply aA|refine aB ?_|refine aC ?_|refine aD ?_|(first|apply zB|apply zA|apply zC|apply zD)<;>intro hg<;>try with_unfolding_all cases hg;done|refine aE ?_|refine aF ?_|refine aG ?_|refine aH ?_ ?_<;>intro hv<;>try with_unfolding_all cases hv;done)
  refine aM ?_;exact hf _ rfl
 |false =>
 rw[w2] at u2
 (with_reducible repeat' first|apply aA|refine aB ?_|refine aC ?_|refine aD ?_|(first|apply zB|apply zA|apply zC|apply zD)<;>intro hg<;>try with_unfolding_all cases hg;done|refine aE ?_|refine aF ?_|refine aG ?_|refine aH ?_ ?_<;>intro hv<;>try with_unfolding_all cases hv;done)
 (refine aI ?_)
 clear u2;have u3:=uis0 nl cl L i n (t0::T0) [62] (by omega);rw[hl] at u3;simp only[ru,ruT,ruR] at u3;rw[hE0] at u3;cases w3:isW L i [62] with
 |true =>
  rw[w3] at u3;have hlt:=yC w3;have hs:wQ L i wV=some 5:=by simp only[wQ,wV,w0,w1,w2,w3];rfl
  rw[hs];dsimp only;clear hs;unfold cmpX
  by_cases he:(zG L (i+1)).2.2=0
  ·rw[if_pos he];have hx:=qU nl cl L hL (i+1) n (t0::T0) hlt he;have hle:=vE (l:=L) (i:=(i+1)) hlt;have hnode:=uA (.sl nl cl (L.map Tok.c)) (zG L (i+1)).2.1 n (t0::T0) (yY 5 (zG L (i+1)).1 [] false false [] (plW L i)) hT;rw[qD] at hnode;simp only[vT,List.isEmpty_nil,xU,List.map_nil] at hnode hx;rw[hl] at hnode hx;generalize yY 5 (zG L (i+1)).1 [] false false [] (plW L i)=N at *;generalize (zG L (i+1))=r at *;obtain⟨NN,j2,e2⟩:=r;dsimp only at *;subst he;generalize NN.map Node.c=A at *;generalize NN.isEmpty=ne at *;simp only[ru,ruT,ruR,List.cons_append] at hx hnode ⊢;rw[hp1,hp2] at hnode;clear hp1 hp2 hT hle hl;generalize hE1:(t0::(T0++[N])).map Test.c=E1 at hnode;rw[hE0] at hx hnode;clear hE0;generalize (t0::T0).length=lenT at *;have hE1':=Hid.mk hE1;clear hE1
   (with_reducible repeat' first|apply aA|refine aB ?_|refine aC ?_|refine aD ?_|(first|apply zB|apply zA|apply zC|apply zD)<;>intro hg<;>try with_unfolding_all cases hg;done|refine aE ?_|refine aF ?_|refine aG ?_|refine aH ?_ ?_<;>intro hv<;>try with_unfolding_all cases hv;done)
   refine aJ ?_;have hE1:=hE1'.h;subst hE1;exact⟨rfl,rfl⟩
  rw[if_neg he];have hx:=kD nl cl L hL (i+1) n (t0::T0) hlt he;rw[hl] at hx;generalize (zG L (i+1))=r at *;obtain⟨NN,j2,e2⟩:=r;dsimp only at hx ⊢;have hf:∀x:Heap,x=ru l j2 n (t0::T0)→RUo l (t0::T0) (.pan e2 j2) (.pan (.t (ustop j2 e2))) x:=fun x h=>⟨rfl,n,(t0::T0),h,fun h=>h⟩
  simp only[ustop] at hx hf;simp only[ru,ruT,ruR] at hx hf;clear hp1 hp2 hT hl he;rw[hE0] at hx hf;clear hE0
  (with_reducible repeat' first|apply aA|refine aB ?_|refine aC ?_|refine aD ?_|(first|apply zB|apply zA|apply zC|apply zD)<;>intro hg<;>try with_unfolding_all cases hg;done|refine aE ?_|refine aF ?_|refine aG ?_|refine aH ?_ ?_<;>intro hv<;>try with_unfolding_all cases hv;done)
  refine aM ?_;exact hf _ rfl
 |false =>
 rw[w3] at u3
 (with_reducible repeat' first|apply aA|refine aB ?_|refine aC ?_|refine aD ?_|(first|apply zB|apply zA|apply zC|apply zD)<;>intro hg<;>try with_unfolding_all cases hg;done|refine aE ?_|refine aF ?_|refine aG ?_|refine aH ?_ ?_<;>intro hv<;>try with_unfolding_all cases hv;done)
 (refine aI ?_)
 clear u3;have u4:=uis0 nl cl L i n (t0::T0) [62,61] (by omega);rw[hl] at u4;simp only[ru,ruT,ruR] at u4;rw[hE0] at u4;cases w4:isW L i [62,61] with
 |true =>
  rw[w4] at u4;have hlt:=yC w4;have hs:wQ L i wV=some 6:=by simp only[wQ,wV,w0,w1,w2,w3,w4];rfl
  rw[hs];dsimp only;clear hs;unfold cmpX
  by_cases he:(zG L (i+1)).2.2=0
  ·rw[if_pos he];have hx:=qU nl cl L hL (i+1) n (t0::T0) hlt he;have hle:=vE (l:=L) (i:=(i+1)) hlt;have hnode:=uA (.sl nl cl (L.map Tok.c)) (zG L (i+1)).2.1 n (t0::T0) (yY 6 (zG L (i+1)).1 [] false false [] (plW L i)) hT;rw[qD] at hnode;simp only[vT,List.isEmpty_nil,xU,List.map_nil] at hnode hx;rw[hl] at hnode hx;generalize yY 6 (zG L (i+1)).1 [] false false [] (plW L i)=N at *;generalize (zG L (i+1))=r at *;obtain⟨NN,j2,e2⟩:=r;dsimp only at *;subst he;generalize NN.map Node.c=A at *;generalize NN.isEmpty=ne at *;simp only[ru,ruT,ruR,List.cons_append] at hx hnode ⊢;rw[hp1,hp2] at hnode;clear hp1 hp2 hT hle hl;generalize hE1:(t0::(T0++[N])).map Test.c=E1 at hnode;rw[hE0] at hx hnode;clear hE0;generalize (t0::T0).length=lenT at *;have hE1':=Hid.mk hE1;clear hE1
   (with_reducible repeat' first|apply aA|refine aB ?_|refine aC ?_|refine aD ?_|(first|apply zB|apply zA|apply zC|apply zD)<;>intro hg<;>try with_unfolding_all cases hg;done|refine aE ?_|refine aF ?_|refine aG ?_|refine aH ?_ ?_<;>intro hv<;>try with_unfolding_all cases hv;done)
   refine aJ ?_;have hE1:=hE1'.h;subst hE1;exact⟨rfl,rfl⟩
  rw[if_neg he];have hx:=kD nl cl L hL (i+1) n (t0::T0) hlt he;rw[hl] at hx;generalize (zG L (i+1))=r at *;obtain⟨NN,j2,e2⟩:=r;dsimp only at hx ⊢;have hf:∀x:Heap,x=ru l j2 n (t0::T0)→RUo l (t0::T0) (.pan e2 j2) (.pan (.t (ustop j2 e2))) x:=fun x h=>⟨rfl,n,(t0::T0),h,fun h=>h⟩
  simp only[ustop] at hx hf;simp only[ru,ruT,ruR] at hx hf;clear hp1 hp2 hT hl he;rw[hE0] at hx hf;clear hE0
  (with_reducible repeat' first|apply aA|refine aB ?_|refine aC ?_|refine aD ?_|(first|apply zB|apply zA|apply zC|apply zD)<;>intro hg<;>try with_unfolding_all cases hg;done|refine aE ?_|refine aF ?_|refine aG ?_|refine aH ?_ ?_<;>intro hv<;>try with_unfolding_all cases hv;done)
  refine aM ?_;exact hf _ rfl
 |false =>
 rw[w4] at u4
 (with_reducible repeat' first|apply aA|refine aB ?_|refine aC ?_|refine aD ?_|(first|apply zB|apply zA|apply zC|apply zD)<;>intro hg<;>try with_unfolding_all cases hg;done|refine aE ?_|refine aF ?_|refine aG ?_|refine aH ?_ ?_<;>intro hv<;>try with_unfolding_all cases hv;done)
 (refine aI ?_)
 clear u4;have hs:wQ L i wV=none:=by simp only[wQ,wV,w0,w1,w2,w3,w4];rfl
 rw[hs];dsimp only;clear hs;unfold cmpX
 by_cases he:(zG L i).2.2=0
 ·rw[if_pos he];have hx:=qU nl cl L hL i n (t0::T0) hi he;have hle:=vE (l:=L) (i:=i) hi;have hnode:=uA (.sl nl cl (L.map Tok.c)) (zG L i).2.1 n (t0::T0) (yY 2 (zG L i).1 [] false false [] (plW L i)) hT;rw[qD] at hnode;simp only[vT,List.isEmpty_nil,xU,List.map_nil] at hnode hx;rw[hl] at hnode hx;generalize yY 2 (zG L i).1 [] false false [] (plW L i)=N at *;generalize (zG L i)=r at *;obtain⟨NN,j2,e2⟩:=r;dsimp only at *;subst he;generalize NN.map Node.c=A at *;generalize NN.isEmpty=ne at *;simp only[ru,ruT,ruR,List.cons_append] at hx hnode ⊢;rw[hp1,hp2] at hnode;clear hp1 hp2 hT hle hl;generalize hE1:(t0::(T0++[N])).map Test.c=E1 at hnode;rw[hE0] at hx hnode;clear hE0;generalize (t0::T0).length=lenT at *;have hE1':=Hid.mk hE1;clear hE1
  (with_reducible repeat' first|apply aA|refine aB ?_|refine aC ?_|refine aD ?_|(first|apply zB|apply zA|apply zC|apply zD)<;>intro hg<;>try with_unfolding_all cases hg;done|refine aE ?_|refine aF ?_|refine aG ?_|refine aH ?_ ?_<;>intro hv<;>try with_unfolding_all cases hv;done)
  refine aJ ?_;have hE1:=hE1'.h;subst hE1;exact⟨rfl,rfl⟩
 rw[if_neg he];have hx:=kD nl cl L hL i n (t0::T0) hi he;rw[hl] at hx;generalize (zG L i)=r at *;obtain⟨NN,j2,e2⟩:=r;dsimp only at hx ⊢;have hf:∀x:Heap,x=ru l j2 n (t0::T0)→RUo l (t0::T0) (.pan e2 j2) (.pan (.t (ustop j2 e2))) x:=fun x h=>⟨rfl,n,(t0::T0),h,fun h=>h⟩
 simp only[ustop] at hx hf;simp only[ru,ruT,ruR] at hx hf;clear hp1 hp2 hT hl he;rw[hE0] at hx hf;clear hE0
 (with_reducible repeat' first|apply aA|refine aB ?_|refine aC ?_|refine aD ?_|(first|apply zB|apply zA|apply zC|apply zD)<;>intro hg<;>try with_unfolding_all cases hg;done|refine aE ?_|refine aF ?_|refine aG ?_|refine aH ?_ ?_<;>intro hv<;>try with_unfolding_all cases hv;done)
 refine aM ?_;exact hf _ rfl
end Go.Ab
