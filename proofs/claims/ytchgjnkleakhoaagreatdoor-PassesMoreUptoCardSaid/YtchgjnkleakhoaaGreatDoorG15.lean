/- Lemmas. -/
import Derived.Test.YtchgjnkleakhoaaGreatDoorG11
set_option maxRecDepth 1000000
set_option maxHeartbeats 40000000
set_option linter.all false
namespace Go.Ab
open Go.Proofs
attribute [local irreducible] W RW RR
def zKd{L:List Tok}{i:Nat}{v w:List Nat}(h:(isW L i v||isW L i w)=true):∃t,L[i]?=some t∧beqL t.s w=isW L i w:=by
 have hk:∀u,isW L i u=true→∃t,L[i]?=some t∧(t.k==1||t.k==7)=true:=fun u hu=>by
  unfold isW at hu;cases ht:L[i]? with
  |none=>rw[ht] at hu;cases hu
  |some t=>rw[ht] at hu;exact⟨t,rfl,(Bool.and_eq_true _ _ ▸ hu).1⟩
 rw[Bool.or_eq_true] at h;obtain⟨t,h1,h2⟩:=h.elim (hk v) (hk w);refine⟨t,h1,?_⟩;unfold isW;rw[h1];dsimp only;rw[h2,Bool.true_and,vC,zCb]
def zMO{L:List Tok}{i:Nat}{v:List Nat}(h:isW L i v=true):∃t,L[i]?=some t:=by
 obtain⟨t,h1,_⟩:=zKd (v:=v) (w:=v) (by rw[h];rfl);exact⟨t,h1⟩
def zXa {nl cl:Bool} {L:List Tok} (hL:L.length<4000000000) {i n:Nat} {T:List Test} (hi:i≤L.length) (hT:T.length<4294967295) (hC:xQ L i=true) :
  ∃o h',Om CC 161 [.box 0 0] (ru (.sl nl cl (L.map Tok.c)) i n T)=some (o,h')∧RUo (.sl nl cl (L.map Tok.c)) T (rngX L i n T) o h':=by
 obtain⟨hlt,hpe,hdd⟩:=zCz hC;have hC':=hC;unfold xQ at hC';rw[Bool.and_eq_true] at hC';have hbr:=hC'.1;clear hC';have hother:∀w,w≠[91]→w≠[40]→isW L i w=false:=fun w h1 h2=>by
  have hbr':=hbr;rw[Bool.or_eq_true] at hbr';exact hbr'.elim (fun h=>wT h h1.symm) (fun h=>wT h h2.symm)
 have a1:=uis0 nl cl L i n T [45] (by omega);have b1:=uis0 nl cl L i n T [110,111,116] (by omega);rw[hother _ (by decide) (by decide)] at a1 b1;clear hother;have c1:=zET nl cl L hL i n T hi;rw[hC] at c1;have hpl:=jM nl cl L i n T;obtain⟨t,ht,hlow⟩:=zKd hbr;have hi2:=uis2 nl cl L i n T [91] [40] (by omega);rw[hbr] at hi2;have m1:=zG2 nl cl L i n T _ t ht (by omega) hi2;have x1:=zFm nl cl L hL (i+1) n T hlt hpe;have hle:=zDf (l:=L) (i:=i+1) hlt;have hdlt:=yA hdd;obtain⟨t2,ht2⟩:=zMO hdd;have hi3:=uis0 nl cl L (zH L (i+1)).2.1 n T [46,46] (by omega);rw[hdd] at hi3;have m2:=zG2 nl cl L (zH L (i+1)).2.1 n T _ t2 ht2 (by omega) hi3;clear hC hbr hi2 hi3 ht ht2 hdd;unfold rngX;generalize isW L i [40]=low at *;generalize hj1:(zH L (i+1)).2.1=j1 at *;generalize (zH L (i+1)).1=A1 at *;clear hj1 hpe;generalize t.s=ts at *;generalize t2.s=t2s at *;have hj2:j1+1≤L.length:=hdlt
 by_cases he:(zH L (j1+1)).2.2=0
 ·rw[if_pos he];have x2:=zFm nl cl L hL (j1+1) n T hj2 he;have hle2:=zDf (l:=L) (i:=j1+1) hj2;generalize (zH L (j1+1)).2.1=j2 at *;generalize (zH L (j1+1)).1=A2 at *;have hi4:=uis2 nl cl L j2 n T [93] [41] (by omega);cases hcl:(isW L j2 [93]||isW L j2 [41]) with
  |false =>
   rw[if_neg (by simp)];rw[hcl] at hi4;have m3:=zOv nl cl L j2 n T _ hi4;generalize Tree.sl nl cl (L.map Tok.c)=l at *;have hf:∀x:Heap,x=ru l j2 n T→RUo l T (.pan 4 j2) (.pan (.t (ustop j2 4))) x:=fun x h=>⟨rfl,n,T,h,fun h=>h⟩
   simp only[ustop,wG] at m3 hf x1 x2;generalize (plW L i).1=p1 at *;generalize (plW L i).2=p2 at *;generalize A1.map Node.c=B1 at *;generalize A2.map Node.c=B2 at *;generalize A1.isEmpty=e1 at *;generalize A2.isEmpty=e2 at *;clear hi4 hcl he hT
   (have F_:=xaO)
   rcases T with _|⟨t0,T0⟩
   all_goals simp only[ru,ruT,ruR] at a1 b1 c1 hpl m1 m2 m3 x1 x2 hf ⊢<;>(try generalize (t0::T0).map Test.c=E0 at *)<;>refine xU zAT rfl ?_ (by kernel_rfl)<;>(simp only[zV,List.length_cons,List.length_nil,Nat.zero_add,Nat.reduceAdd];show W CC _ 132 (zA 161) _ _ _)<;>(refine gA ?_)<;>(refine aM ?_)<;>exact hf _ rfl
  |true =>
   rw[if_pos rfl];rw[hcl] at hi4;obtain⟨t3,ht3,hhigh⟩:=zKd hcl;have hlt3:=getElem?_lt ht3;have m3:=zG2 nl cl L j2 n T _ t3 ht3 (by omega) hi4;have hnode:=zBV (.sl nl cl (L.map Tok.c)) (j2+1) n T (xJ 7 A1 A2 low (isW L j2 [41]) [] (plW L i)) hT;rw[zC7] at hnode;generalize xJ 7 A1 A2 low (isW L j2 [41]) [] (plW L i)=N at *;generalize isW L j2 [41]=high at *;simp only[wG,List.isEmpty_nil,xA,List.map_nil] at hnode x1 x2;generalize (plW L i).1=p1 at *;generalize (plW L i).2=p2 at *;generalize A1.map Node.c=B1 at *;generalize A2.map Node.c=B2 at *;generalize A1.isEmpty=e1 at *;generalize A2.isEmpty=e2 at *;generalize t3.s=t3s at *;generalize hlenT:T.length=lenT at *;generalize Tree.sl nl cl (L.map Tok.c)=l at *;have hf:∀x:Heap,x=ru l (j2+1) n (T++[N])→RUo l T (.ok lenT (j2+1) n (T++[N])) (.val (.t (.int .i64 (lenT:Nat)))) x:=fun x h=>⟨rfl,h⟩
   clear hi4 hcl he hT ht3 hlenT
   (have F_:=xaO)
   rcases T with _|⟨t0,T0⟩
   all_goals simp only[List.nil_append,List.cons_append] at hnode hf<;>simp only[ru,ruT,ruR] at a1 b1 c1 hpl m1 m2 m3 x1 x2 hf hnode ⊢<;>(try generalize (t0::T0).map Test.c=E0 at *)<;>(try generalize (t0::(T0++[N])).map Test.c=E1 at *)<;>(try generalize [N].map Test.c=E1 at *)<;>refine xU zAT rfl ?_ (by kernel_rfl)<;>(simp only[zV,List.length_cons,List.length_nil,Nat.zero_add,Nat.reduceAdd];show W CC _ 132 (zA 161) _ _ _)<;>(refine gA ?_)<;>(refine aJ ?_)<;>exact hf _ rfl
 rw[if_neg he];have x2:=zGM nl cl L hL (j1+1) n T hj2 he;generalize (zH L (j1+1)).2.1=j2 at *;generalize (zH L (j1+1)).2.2=e at *;generalize Tree.sl nl cl (L.map Tok.c)=l at *;have hf:∀x:Heap,x=ru l j2 n T→RUo l T (.pan e j2) (.pan (.t (ustop j2 e))) x:=fun x h=>⟨rfl,n,T,h,fun h=>h⟩
 simp only[ustop,wG] at hf x1 x2;generalize (plW L i).1=p1 at *;generalize (plW L i).2=p2 at *;generalize A1.map Node.c=B1 at *;generalize A1.isEmpty=e1 at *;clear he hT
 (have F_:=xaO)
 rcases T with _|⟨t0,T0⟩
 all_goals simp only[ru,ruT,ruR] at a1 b1 c1 hpl m1 m2 x1 x2 hf ⊢<;>(try generalize (t0::T0).map Test.c=E0 at *)<;>refine xU zAT rfl ?_ (by kernel_rfl)<;>(simp only[zV,List.length_cons,List.length_nil,Nat.zero_add,Nat.reduceAdd];show W CC _ 132 (zA 161) _ _ _)<;>(refine gA ?_)<;>(refine aM ?_)<;>exact hf _ rfl
def zSQ {nl cl:Bool} {L:List Tok} (hL:L.length<4000000000) {i:Nat} {T:List Test} (hi:i≤L.length) (hB:notX L i=true) :
  ∃o h',Om CC 161 [.box 0 0] (ru (.sl nl cl (L.map Tok.c)) i 4 T)=some (o,h')∧RUo (.sl nl cl (L.map Tok.c)) T (.pan 12 i) o h':=by
 obtain⟨n,hn⟩:∃n,n=4:=⟨4,rfl⟩;rw[← hn];unfold notX at hB;rw[Bool.and_eq_true] at hB;obtain⟨hn1,hn2⟩:=hB;have hlt2:=yA hn2;have a1:=uis0 nl cl L i n T [45] (by omega);rw[wT hn1 (by decide)] at a1;have b1:=uis0 nl cl L i n T [110,111,116] (by omega);rw[hn1] at b1;have b2:Om CC 162 [.box 0 0,.t (.int .i64 1),.t (.sl false false [[.str [40]]])] (ru (.sl nl cl (L.map Tok.c)) i n T)=some (.val (.t (.bool (isW L (i+1) [40]))),ru (.sl nl cl (L.map Tok.c)) i n T):=uis1 nl cl L i n T 1 [40] (by omega);rw[hn2] at b2;have hpl:=jM nl cl L i n T;clear hn1 hn2;have hf:∀x:Heap,x=ru (.sl nl cl (L.map Tok.c)) i n T→RUo (.sl nl cl (L.map Tok.c)) T (.pan 12 i) (.pan (.t (ustop i 12))) x:=fun x h=>⟨rfl,n,T,h,fun h=>h⟩
 have f1:=zKa (.sl nl cl (L.map Tok.c)) i n T 12;have e4:((n:Int)==4)=true:=by rw[hn];rfl
 clear hn;simp only[ustop] at hf f1;generalize Tree.sl nl cl (L.map Tok.c)=l at *;generalize (plW L i).1=p1 at *;generalize (plW L i).2=p2 at *
 (have F_:=xaO)
 rcases T with _|⟨t0,T0⟩
 all_goals simp only[ru,ruT,ruR] at a1 b1 b2 hpl f1 hf ⊢<;>(try generalize (t0::T0).map Test.c=E0 at *)<;>refine xU zAT rfl ?_ (by kernel_rfl)<;>(simp only[zV,List.length_cons,List.length_nil,Nat.zero_add,Nat.reduceAdd];show W CC _ 132 (zA 161) _ _ _)<;>(refine gA ?_)<;>(refine aM ?_)<;>exact hf _ rfl
def zVn {nl cl:Bool} {L:List Tok} (hL:L.length<4000000000) {i n i1:Nat} {T:List Test} {e:Int} {o1:Out} {h1:Heap} (hi:i≤L.length) (hn:n<4) (hB:notX L i=true)
  (h:Om CC 96 [.box 0 0] (ru (.sl nl cl (L.map Tok.c)) (i+2) (n+1) T)=some (o1,h1)) (hr:RUo (.sl nl cl (L.map Tok.c)) T (.pan e i1) o1 h1) :
  ∃o h',Om CC 161 [.box 0 0] (ru (.sl nl cl (L.map Tok.c)) i n T)=some (o,h')∧RUo (.sl nl cl (L.map Tok.c)) T (.pan e i1) o h':=by
 obtain⟨rfl,n1,T1,rfl,hg⟩:=hr;unfold notX at hB;rw[Bool.and_eq_true] at hB;obtain⟨hn1,hn2⟩:=hB;have hlt2:=yA hn2;have a1:=uis0 nl cl L i n T [45] (by omega);rw[wT hn1 (by decide)] at a1;have b1:=uis0 nl cl L i n T [110,111,116] (by omega);rw[hn1] at b1;have b2:Om CC 162 [.box 0 0,.t (.int .i64 1),.t (.sl false false [[.str [40]]])] (ru (.sl nl cl (L.map Tok.c)) i n T)=some (.val (.t (.bool (isW L (i+1) [40]))),ru (.sl nl cl (L.map Tok.c)) i n T):=uis1 nl cl L i n T 1 [40] (by omega);rw[hn2] at b2;have hpl:=jM nl cl L i n T;clear hn1 hn2;have e4:((n:Int)==4)=false:=by simp;omega
 have w1:=wI64 n (by omega);have w2:IntKind.i64.wrap ((i:Int)+2)=((i+2:Nat):Int):=by rw[wrap64]<;>omega
 generalize Tree.sl nl cl (L.map Tok.c)=l at *;have hf:∀x:Heap,x=ru l i1 n1 T1→RUo l T (.pan e i1) (.pan (.t (ustop i1 e))) x:=fun x h=>⟨rfl,n1,T1,h,hg⟩
 simp only[ustop] at hf h;generalize (plW L i).1=p1 at *;generalize (plW L i).2=p2 at *
 (have F_:=xaO)
 rcases T with _|⟨t0,T0⟩<;>rcases T1 with _|⟨t1,R1⟩<;>first|exact absurd rfl (hg (List.cons_ne_nil _ _))|skip
 all_goals simp only[ru,ruT,ruR] at a1 b1 b2 hpl h hf ⊢<;>(try generalize (t0::T0).map Test.c=E0 at *)<;>(try generalize (t1::R1).map Test.c=E1 at *)<;>refine xU zAT rfl ?_ (by kernel_rfl)<;>(simp only[zV,List.length_cons,List.length_nil,Nat.zero_add,Nat.reduceAdd];show W CC _ 132 (zA 161) _ _ _)<;>(refine gA ?_)<;>(refine aM ?_)<;>exact hf _ rfl
def zRv {nl cl:Bool} {L:List Tok} (hL:L.length<4000000000) {i n k i1:Nat} {T T1:List Test} {o1:Out} {h1:Heap} (hi:i≤L.length) (hn:n<4) (hB:notX L i=true) (hT1:T1≠[]) (hi1:i1≤L.length)
  (h:Om CC 96 [.box 0 0] (ru (.sl nl cl (L.map Tok.c)) (i+2) (n+1) T)=some (o1,h1)) (hr:RUo (.sl nl cl (L.map Tok.c)) T (.ok k i1 (n+1) T1) o1 h1) (hc:isW L i1 [41]=false) :
  ∃o h',Om CC 161 [.box 0 0] (ru (.sl nl cl (L.map Tok.c)) i n T)=some (o,h')∧RUo (.sl nl cl (L.map Tok.c)) T (.pan 4 i1) o h':=by
 obtain⟨rfl,rfl⟩:=hr;unfold notX at hB;rw[Bool.and_eq_true] at hB;obtain⟨hn1,hn2⟩:=hB;have hlt2:=yA hn2;have a1:=uis0 nl cl L i n T [45] (by omega);rw[wT hn1 (by decide)] at a1;have b1:=uis0 nl cl L i n T [110,111,116] (by omega);rw[hn1] at b1;have b2:Om CC 162 [.box 0 0,.t (.int .i64 1),.t (.sl false false [[.str [40]]])] (ru (.sl nl cl (L.map Tok.c)) i n T)=some (.val (.t (.bool (isW L (i+1) [40]))),ru (.sl nl cl (L.map Tok.c)) i n T):=uis1 nl cl L i n T 1 [40] (by omega);rw[hn2] at b2;have hpl:=jM nl cl L i n T;clear hn1 hn2;have e4:((n:Int)==4)=false:=by simp;omega
 have w1:=wI64 n (by omega);have w2:IntKind.i64.wrap ((i:Int)+2)=((i+2:Nat):Int):=by rw[wrap64]<;>omega
 have hi4:=uis0 nl cl L i1 (n+1) T1 [41] (by omega);rw[hc] at hi4;have m1:=zOv nl cl L i1 (n+1) T1 _ hi4;clear hi4 hc;generalize Tree.sl nl cl (L.map Tok.c)=l at *;have hf:∀x:Heap,x=ru l i1 (n+1) T1→RUo l T (.pan 4 i1) (.pan (.t (ustop i1 4))) x:=fun x h=>⟨rfl,n+1,T1,h,fun _=>hT1⟩
 simp only[ustop] at hf m1;generalize (plW L i).1=p1 at *;generalize (plW L i).2=p2 at *
 (have F_:=xaO)
 rcases T1 with _|⟨t1,R1⟩
 ·exact absurd rfl hT1
 rcases T with _|⟨t0,T0⟩
 all_goals simp only[ru,ruT,ruR] at a1 b1 b2 hpl h hf m1 ⊢<;>(try generalize (t0::T0).map Test.c=E0 at *)<;>(try generalize (t1::R1).map Test.c=E1 at *)<;>refine xU zAT rfl ?_ (by kernel_rfl)<;>(simp only[zV,List.length_cons,List.length_nil,Nat.zero_add,Nat.reduceAdd];show W CC _ 132 (zA 161) _ _ _)<;>(refine gA ?_)<;>(refine aM ?_)<;>exact hf _ rfl
def zVI {nl cl:Bool} {L:List Tok} (hL:L.length<4000000000) {i n k i1:Nat} {T T1:List Test} {o1:Out} {h1:Heap} (hi:i≤L.length) (hn:n<4) (hB:notX L i=true) (hT1:T1≠[]) (hl1:T1.length<4294967295)
  (h:Om CC 96 [.box 0 0] (ru (.sl nl cl (L.map Tok.c)) (i+2) (n+1) T)=some (o1,h1)) (hr:RUo (.sl nl cl (L.map Tok.c)) T (.ok k i1 (n+1) T1) o1 h1) (hc:isW L i1 [41]=true) :
  ∃o h',Om CC 161 [.box 0 0] (ru (.sl nl cl (L.map Tok.c)) i n T)=some (o,h')∧RUo (.sl nl cl (L.map Tok.c)) T (.ok T1.length (i1+1) n (T1++[xJ 8 [] [] false false [k] (plW L i)])) o h':=by
 obtain⟨rfl,rfl⟩:=hr;unfold notX at hB;rw[Bool.and_eq_true] at hB;obtain⟨hn1,hn2⟩:=hB;have hlt2:=yA hn2;have a1:=uis0 nl cl L i n T [45] (by omega);rw[wT hn1 (by decide)] at a1;have b1:=uis0 nl cl L i n T [110,111,116] (by omega);rw[hn1] at b1;have b2:Om CC 162 [.box 0 0,.t (.int .i64 1),.t (.sl false false [[.str [40]]])] (ru (.sl nl cl (L.map Tok.c)) i n T)=some (.val (.t (.bool (isW L (i+1) [40]))),ru (.sl nl cl (L.map Tok.c)) i n T):=uis1 nl cl L i n T 1 [40] (by omega);rw[hn2] at b2;have hpl:=jM nl cl L i n T;clear hn1 hn2;have e4:((n:Int)==4)=false:=by simp;omega
 have w1:=wI64 n (by omega);have w2:IntKind.i64.wrap ((i:Int)+2)=((i+2:Nat):Int):=by rw[wrap64]<;>omega
 have w3:IntKind.i64.wrap (((n+1:Nat):Int) - 1)=(n:Int):=by rw[wrap64]<;>omega
 have hlt3:=yA hc;have hi4:=uis0 nl cl L i1 (n+1) T1 [41] (by omega);rw[hc] at hi4;obtain⟨t2,ht2⟩:=zMO hc;have m1:=zG2 nl cl L i1 (n+1) T1 _ t2 ht2 (by omega) hi4;have hnode:=zBV (.sl nl cl (L.map Tok.c)) (i1+1) n T1 (xJ 8 [] [] false false [k] (plW L i)) hl1;rw[zC7] at hnode;simp only[wG,List.isEmpty_nil,List.isEmpty_cons,xA,List.map_nil,List.map_cons,intC] at hnode;clear hi4 hc ht2;generalize xJ 8 [] [] false false [k] (plW L i)=N at *;generalize t2.s=ts at *;generalize (plW L i).1=p1 at *;generalize (plW L i).2=p2 at *;generalize Tree.sl nl cl (L.map Tok.c)=l at *;generalize hlen:T1.length=len at *;have hf:∀x:Heap,x=ru l (i1+1) n (T1++[N])→RUo l T (.ok len (i1+1) n (T1++[N])) (.val (.t (.int .i64 (len:Nat)))) x:=fun x h=>⟨rfl,h⟩
 clear hlen
 (have F_:=xaO)
 rcases T1 with _|⟨t1,R1⟩
 ·exact absurd rfl hT1
 rcases T with _|⟨t0,T0⟩
 all_goals simp only[List.cons_append] at hnode hf<;>simp only[ru,ruT,ruR] at a1 b1 b2 hpl h hf m1 hnode ⊢<;>(try generalize (t0::T0).map Test.c=E0 at *)<;>generalize (t1::R1).map Test.c=E1 at *<;>generalize (t1::(R1++[N])).map Test.c=E2 at *<;>refine xU zAT rfl ?_ (by kernel_rfl)<;>(simp only[zV,List.length_cons,List.length_nil,Nat.zero_add,Nat.reduceAdd];show W CC _ 132 (zA 161) _ _ _)<;>(refine gA ?_)<;>(refine aJ ?_)<;>exact hf _ rfl
end Go.Ab
