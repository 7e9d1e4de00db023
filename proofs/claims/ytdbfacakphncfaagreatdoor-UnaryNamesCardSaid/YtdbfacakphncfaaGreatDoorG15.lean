/- Lemmas. -/
import Derived.Test.YtdbfacakphncfaaGreatDoorG11
set_option maxRecDepth 1000000
set_option maxHeartbeats 40000000
set_option linter.all false
namespace Go.Ab
open Go.Proofs
attribute [local irreducible] W RW RR
def zKx{L:List Tok}{i:Nat}{v w:List Nat}(h:(isW L i v||isW L i w)=true):∃t,L[i]?=some t∧beqL t.s w=isW L i w:=by
 have hk:∀u,isW L i u=true→∃t,L[i]?=some t∧(t.k==1||t.k==7)=true:=fun u hu=>by
  unfold isW at hu;cases ht:L[i]? with
  |none=>rw[ht] at hu;cases hu
  |some t=>rw[ht] at hu;exact⟨t,rfl,(Bool.and_eq_true _ _ ▸ hu).1⟩
 rw[Bool.or_eq_true] at h;obtain⟨t,h1,h2⟩:=h.elim (hk v) (hk w);refine⟨t,h1,?_⟩;unfold isW;rw[h1];dsimp only;rw[h2,Bool.true_and,wV,zBV]
def zNK{L:List Tok}{i:Nat}{v:List Nat}(h:isW L i v=true):∃t,L[i]?=some t:=by
 obtain⟨t,h1,_⟩:=zKx (v:=v) (w:=v) (by rw[h];rfl);exact⟨t,h1⟩
def zXi {nl cl:Bool} {L:List Tok} (hL:L.length<4000000000) {i n:Nat} {T:List Test} (hi:i≤L.length) (hT:T.length<4294967295) (hC:xQ L i=true) :
  ∃o h',Om CC 78 [.box 0 0] (ru (.sl nl cl (L.map Tok.c)) i n T)=some (o,h')∧RUo (.sl nl cl (L.map Tok.c)) T (rngX L i n T) o h':=by
 obtain⟨hJ,hM,hw⟩:=zCj hC;have hx:=hC;unfold xQ at hx;rw[Bool.and_eq_true] at hx;have hy:=hx.1;clear hx;have hj:∀w,w≠[91]→w≠[40]→isW L i w=false:=fun w h1 h2=>by
  have ho:=hy;rw[Bool.or_eq_true] at ho;exact ho.elim (fun h=>wZ h h1.symm) (fun h=>wZ h h2.symm)
 have a1:=uis0 nl cl L i n T [45] (by omega);have b1:=uis0 nl cl L i n T [110,111,116] (by omega);rw[hj _ (by decide) (by decide)] at a1 b1;clear hj;have c1:=zE2 nl cl L hL i n T hi;rw[hC] at c1;have hl:=kO nl cl L i n T;obtain⟨t,ht,hO⟩:=zKx hy;have hA:=uis2 nl cl L i n T [91] [40] (by omega);rw[hy] at hA;have m1:=zHh nl cl L i n T _ t ht (by omega) hA;have x1:=zFD nl cl L hL (i+1) n T hJ hM;have hS:=zCM (l:=L) (i:=i+1) hJ;have hD:=zY hw;obtain⟨t2,hp⟩:=zNK hw;have hE:=uis0 nl cl L (zH L (i+1)).2.1 n T [46,46] (by omega);rw[hw] at hE;have m2:=zHh nl cl L (zH L (i+1)).2.1 n T _ t2 hp (by omega) hE;clear hC hy hA hE ht hp hw;unfold rngX;generalize isW L i [40]=low at *;generalize hP:(zH L (i+1)).2.1=j1 at *;generalize (zH L (i+1)).1=A1 at *;clear hP hM;generalize t.s=ts at *;generalize t2.s=t2s at *;have hF:j1+1≤L.length:=hD
 by_cases he:(zH L (j1+1)).2.2=0
 ·rw[if_pos he];have x2:=zFD nl cl L hL (j1+1) n T hF he;have hQ:=zCM (l:=L) (i:=j1+1) hF;generalize (zH L (j1+1)).2.1=j2 at *;generalize (zH L (j1+1)).1=A2 at *;have hh:=uis2 nl cl L j2 n T [93] [41] (by omega);cases hq:(isW L j2 [93]||isW L j2 [41]) with
  |false =>
   rw[if_neg (by simp)];rw[hq] at hh;have m3:=zPM nl cl L j2 n T _ hh;generalize Tree.sl nl cl (L.map Tok.c)=l at *;have hf:∀x:Heap,x=ru l j2 n T→RUo l T (.pan 4 j2) (.pan (.t (ustop j2 4))) x:=fun x h=>⟨rfl,n,T,h,fun h=>h⟩
   simp only[ustop,wJ] at m3 hf x1 x2;generalize (plW L i).1=p1 at *;generalize (plW L i).2=p2 at *;generalize A1.map Node.c=B1 at *;generalize A2.map Node.c=B2 at *;generalize A1.isEmpty=e1 at *;generalize A2.isEmpty=e2 at *;clear hh hq he hT
   (have F_:=xaO)
   rcases T with _|⟨t0,T0⟩
   all_goals simp only[ru,ruT,ruR] at a1 b1 c1 hl m1 m2 m3 x1 x2 hf ⊢<;>(try generalize (t0::T0).map Test.c=E0 at *)<;>refine xU zBs rfl ?_ (by kernel_rfl)<;>(simp only[zT,List.length_cons,List.length_nil,Nat.zero_add,Nat.reduceAdd];show W CC _ 132 (zA 78) _ _ _)<;>(refine gA ?_)<;>(refine aM ?_)<;>exact hf _ rfl
  |true =>
   rw[if_pos rfl];rw[hq] at hh;obtain⟨t3,hG,hN⟩:=zKx hq;have hH:=getElem?_lt hG;have m3:=zHh nl cl L j2 n T _ t3 hG (by omega) hh;have ha:=zBp (.sl nl cl (L.map Tok.c)) (j2+1) n T (xK 7 A1 A2 low (isW L j2 [41]) [] (plW L i)) hT;rw[zCJ] at ha;generalize xK 7 A1 A2 low (isW L j2 [41]) [] (plW L i)=N at *;generalize isW L j2 [41]=high at *;simp only[wJ,List.isEmpty_nil,xE,List.map_nil] at ha x1 x2;generalize (plW L i).1=p1 at *;generalize (plW L i).2=p2 at *;generalize A1.map Node.c=B1 at *;generalize A2.map Node.c=B2 at *;generalize A1.isEmpty=e1 at *;generalize A2.isEmpty=e2 at *;generalize t3.s=t3s at *;generalize hv:T.length=lenT at *;generalize Tree.sl nl cl (L.map Tok.c)=l at *;have hf:∀x:Heap,x=ru l (j2+1) n (T++[N])→RUo l T (.ok lenT (j2+1) n (T++[N])) (.val (.t (.int .i64 (lenT:Nat)))) x:=fun x h=>⟨rfl,h⟩
   clear hh hq he hT hG hv
   (have F_:=xaO)
   rcases T with _|⟨t0,T0⟩
   all_goals simp only[List.nil_append,List.cons_append] at ha hf<;>simp only[ru,ruT,ruR] at a1 b1 c1 hl m1 m2 m3 x1 x2 hf ha ⊢<;>(try generalize (t0::T0).map Test.c=E0 at *)<;>(try generalize (t0::(T0++[N])).map Test.c=E1 at *)<;>(try generalize [N].map Test.c=E1 at *)<;>refine xU zBs rfl ?_ (by kernel_rfl)<;>(simp only[zT,List.length_cons,List.length_nil,Nat.zero_add,Nat.reduceAdd];show W CC _ 132 (zA 78) _ _ _)<;>(refine gA ?_)<;>(refine aJ ?_)<;>exact hf _ rfl
 rw[if_neg he];have x2:=zHb nl cl L hL (j1+1) n T hF he;generalize (zH L (j1+1)).2.1=j2 at *;generalize (zH L (j1+1)).2.2=e at *;generalize Tree.sl nl cl (L.map Tok.c)=l at *;have hf:∀x:Heap,x=ru l j2 n T→RUo l T (.pan e j2) (.pan (.t (ustop j2 e))) x:=fun x h=>⟨rfl,n,T,h,fun h=>h⟩
 simp only[ustop,wJ] at hf x1 x2;generalize (plW L i).1=p1 at *;generalize (plW L i).2=p2 at *;generalize A1.map Node.c=B1 at *;generalize A1.isEmpty=e1 at *;clear he hT
 (have F_:=xaO)
 rcases T with _|⟨t0,T0⟩
 all_goals simp only[ru,ruT,ruR] at a1 b1 c1 hl m1 m2 x1 x2 hf ⊢<;>(try generalize (t0::T0).map Test.c=E0 at *)<;>refine xU zBs rfl ?_ (by kernel_rfl)<;>(simp only[zT,List.length_cons,List.length_nil,Nat.zero_add,Nat.reduceAdd];show W CC _ 132 (zA 78) _ _ _)<;>(refine gA ?_)<;>(refine aM ?_)<;>exact hf _ rfl
def zVt {nl cl:Bool} {L:List Tok} (hL:L.length<4000000000) {i:Nat} {T:List Test} (hi:i≤L.length) (hB:notX L i=true) :
  ∃o h',Om CC 78 [.box 0 0] (ru (.sl nl cl (L.map Tok.c)) i 4 T)=some (o,h')∧RUo (.sl nl cl (L.map Tok.c)) T (.pan 12 i) o h':=by
 obtain⟨n,hn⟩:∃n,n=4:=⟨4,rfl⟩;rw[← hn];unfold notX at hB;rw[Bool.and_eq_true] at hB;obtain⟨hb,hd⟩:=hB;have hm:=zY hd;have a1:=uis0 nl cl L i n T [45] (by omega);rw[wZ hb (by decide)] at a1;have b1:=uis0 nl cl L i n T [110,111,116] (by omega);rw[hb] at b1;have b2:Om CC 79 [.box 0 0,.t (.int .i64 1),.t (.sl false false [[.str [40]]])] (ru (.sl nl cl (L.map Tok.c)) i n T)=some (.val (.t (.bool (isW L (i+1) [40]))),ru (.sl nl cl (L.map Tok.c)) i n T):=uis1 nl cl L i n T 1 [40] (by omega);rw[hd] at b2;have hl:=kO nl cl L i n T;clear hb hd;have hf:∀x:Heap,x=ru (.sl nl cl (L.map Tok.c)) i n T→RUo (.sl nl cl (L.map Tok.c)) T (.pan 12 i) (.pan (.t (ustop i 12))) x:=fun x h=>⟨rfl,n,T,h,fun h=>h⟩
 have f1:=zKq (.sl nl cl (L.map Tok.c)) i n T 12;have e4:((n:Int)==4)=true:=by rw[hn];rfl
 clear hn;simp only[ustop] at hf f1;generalize Tree.sl nl cl (L.map Tok.c)=l at *;generalize (plW L i).1=p1 at *;generalize (plW L i).2=p2 at *
 (have F_:=xaO)
 rcases T with _|⟨t0,T0⟩
 all_goals simp only[ru,ruT,ruR] at a1 b1 b2 hl f1 hf ⊢<;>(try generalize (t0::T0).map Test.c=E0 at *)<;>refine xU zBs rfl ?_ (by kernel_rfl)<;>(simp only[zT,List.length_cons,List.length_nil,Nat.zero_add,Nat.reduceAdd];show W CC _ 132 (zA 78) _ _ _)<;>(refine gA ?_)<;>(refine aM ?_)<;>exact hf _ rfl
def zTv {nl cl:Bool} {L:List Tok} (hL:L.length<4000000000) {i n i1:Nat} {T:List Test} {e:Int} {o1:Out} {h1:Heap} (hi:i≤L.length) (hn:n<4) (hB:notX L i=true)
  (h:Om CC 37 [.box 0 0] (ru (.sl nl cl (L.map Tok.c)) (i+2) (n+1) T)=some (o1,h1)) (hr:RUo (.sl nl cl (L.map Tok.c)) T (.pan e i1) o1 h1) :
  ∃o h',Om CC 78 [.box 0 0] (ru (.sl nl cl (L.map Tok.c)) i n T)=some (o,h')∧RUo (.sl nl cl (L.map Tok.c)) T (.pan e i1) o h':=by
 obtain⟨rfl,n1,T1,rfl,hg⟩:=hr;unfold notX at hB;rw[Bool.and_eq_true] at hB;obtain⟨hb,hd⟩:=hB;have hm:=zY hd;have a1:=uis0 nl cl L i n T [45] (by omega);rw[wZ hb (by decide)] at a1;have b1:=uis0 nl cl L i n T [110,111,116] (by omega);rw[hb] at b1;have b2:Om CC 79 [.box 0 0,.t (.int .i64 1),.t (.sl false false [[.str [40]]])] (ru (.sl nl cl (L.map Tok.c)) i n T)=some (.val (.t (.bool (isW L (i+1) [40]))),ru (.sl nl cl (L.map Tok.c)) i n T):=uis1 nl cl L i n T 1 [40] (by omega);rw[hd] at b2;have hl:=kO nl cl L i n T;clear hb hd;have e4:((n:Int)==4)=false:=by simp;omega
 have w1:=wI64 n (by omega);have w2:IntKind.i64.wrap ((i:Int)+2)=((i+2:Nat):Int):=by rw[wrap64]<;>omega
 generalize Tree.sl nl cl (L.map Tok.c)=l at *;have hf:∀x:Heap,x=ru l i1 n1 T1→RUo l T (.pan e i1) (.pan (.t (ustop i1 e))) x:=fun x h=>⟨rfl,n1,T1,h,hg⟩
 simp only[ustop] at hf h;generalize (plW L i).1=p1 at *;generalize (plW L i).2=p2 at *
 (have F_:=xaO)
 rcases T with _|⟨t0,T0⟩<;>rcases T1 with _|⟨t1,R1⟩<;>first|exact absurd rfl (hg (List.cons_ne_nil _ _))|skip
 all_goals simp only[ru,ruT,ruR] at a1 b1 b2 hl h hf ⊢<;>(try generalize (t0::T0).map Test.c=E0 at *)<;>(try generalize (t1::R1).map Test.c=E1 at *)<;>refine xU zBs rfl ?_ (by kernel_rfl)<;>(simp only[zT,List.length_cons,List.length_nil,Nat.zero_add,Nat.reduceAdd];show W CC _ 132 (zA 78) _ _ _)<;>(refine gA ?_)<;>(refine aM ?_)<;>exact hf _ rfl
def zRA {nl cl:Bool} {L:List Tok} (hL:L.length<4000000000) {i n k i1:Nat} {T T1:List Test} {o1:Out} {h1:Heap} (hi:i≤L.length) (hn:n<4) (hB:notX L i=true) (hz:T1≠[]) (hU:i1≤L.length)
  (h:Om CC 37 [.box 0 0] (ru (.sl nl cl (L.map Tok.c)) (i+2) (n+1) T)=some (o1,h1)) (hr:RUo (.sl nl cl (L.map Tok.c)) T (.ok k i1 (n+1) T1) o1 h1) (hc:isW L i1 [41]=false) :
  ∃o h',Om CC 78 [.box 0 0] (ru (.sl nl cl (L.map Tok.c)) i n T)=some (o,h')∧RUo (.sl nl cl (L.map Tok.c)) T (.pan 4 i1) o h':=by
 obtain⟨rfl,rfl⟩:=hr;unfold notX at hB;rw[Bool.and_eq_true] at hB;obtain⟨hb,hd⟩:=hB;have hm:=zY hd;have a1:=uis0 nl cl L i n T [45] (by omega);rw[wZ hb (by decide)] at a1;have b1:=uis0 nl cl L i n T [110,111,116] (by omega);rw[hb] at b1;have b2:Om CC 79 [.box 0 0,.t (.int .i64 1),.t (.sl false false [[.str [40]]])] (ru (.sl nl cl (L.map Tok.c)) i n T)=some (.val (.t (.bool (isW L (i+1) [40]))),ru (.sl nl cl (L.map Tok.c)) i n T):=uis1 nl cl L i n T 1 [40] (by omega);rw[hd] at b2;have hl:=kO nl cl L i n T;clear hb hd;have e4:((n:Int)==4)=false:=by simp;omega
 have w1:=wI64 n (by omega);have w2:IntKind.i64.wrap ((i:Int)+2)=((i+2:Nat):Int):=by rw[wrap64]<;>omega
 have hh:=uis0 nl cl L i1 (n+1) T1 [41] (by omega);rw[hc] at hh;have m1:=zPM nl cl L i1 (n+1) T1 _ hh;clear hh hc;generalize Tree.sl nl cl (L.map Tok.c)=l at *;have hf:∀x:Heap,x=ru l i1 (n+1) T1→RUo l T (.pan 4 i1) (.pan (.t (ustop i1 4))) x:=fun x h=>⟨rfl,n+1,T1,h,fun _=>hz⟩
 simp only[ustop] at hf m1;generalize (plW L i).1=p1 at *;generalize (plW L i).2=p2 at *
 (have F_:=xaO)
 rcases T1 with _|⟨t1,R1⟩
 ·exact absurd rfl hz
 rcases T with _|⟨t0,T0⟩
 all_goals simp only[ru,ruT,ruR] at a1 b1 b2 hl h hf m1 ⊢<;>(try generalize (t0::T0).map Test.c=E0 at *)<;>(try generalize (t1::R1).map Test.c=E1 at *)<;>refine xU zBs rfl ?_ (by kernel_rfl)<;>(simp only[zT,List.length_cons,List.length_nil,Nat.zero_add,Nat.reduceAdd];show W CC _ 132 (zA 78) _ _ _)<;>(refine gA ?_)<;>(refine aM ?_)<;>exact hf _ rfl
def zWr {nl cl:Bool} {L:List Tok} (hL:L.length<4000000000) {i n k i1:Nat} {T T1:List Test} {o1:Out} {h1:Heap} (hi:i≤L.length) (hn:n<4) (hB:notX L i=true) (hz:T1≠[]) (hR:T1.length<4294967295)
  (h:Om CC 37 [.box 0 0] (ru (.sl nl cl (L.map Tok.c)) (i+2) (n+1) T)=some (o1,h1)) (hr:RUo (.sl nl cl (L.map Tok.c)) T (.ok k i1 (n+1) T1) o1 h1) (hc:isW L i1 [41]=true) :
  ∃o h',Om CC 78 [.box 0 0] (ru (.sl nl cl (L.map Tok.c)) i n T)=some (o,h')∧RUo (.sl nl cl (L.map Tok.c)) T (.ok T1.length (i1+1) n (T1++[xK 8 [] [] false false [k] (plW L i)])) o h':=by
 obtain⟨rfl,rfl⟩:=hr;unfold notX at hB;rw[Bool.and_eq_true] at hB;obtain⟨hb,hd⟩:=hB;have hm:=zY hd;have a1:=uis0 nl cl L i n T [45] (by omega);rw[wZ hb (by decide)] at a1;have b1:=uis0 nl cl L i n T [110,111,116] (by omega);rw[hb] at b1;have b2:Om CC 79 [.box 0 0,.t (.int .i64 1),.t (.sl false false [[.str [40]]])] (ru (.sl nl cl (L.map Tok.c)) i n T)=some (.val (.t (.bool (isW L (i+1) [40]))),ru (.sl nl cl (L.map Tok.c)) i n T):=uis1 nl cl L i n T 1 [40] (by omega);rw[hd] at b2;have hl:=kO nl cl L i n T;clear hb hd;have e4:((n:Int)==4)=false:=by simp;omega
 have w1:=wI64 n (by omega);have w2:IntKind.i64.wrap ((i:Int)+2)=((i+2:Nat):Int):=by rw[wrap64]<;>omega
 have w3:IntKind.i64.wrap (((n+1:Nat):Int) - 1)=(n:Int):=by rw[wrap64]<;>omega
 have hH:=zY hc;have hh:=uis0 nl cl L i1 (n+1) T1 [41] (by omega);rw[hc] at hh;obtain⟨t2,hp⟩:=zNK hc;have m1:=zHh nl cl L i1 (n+1) T1 _ t2 hp (by omega) hh;have ha:=zBp (.sl nl cl (L.map Tok.c)) (i1+1) n T1 (xK 8 [] [] false false [k] (plW L i)) hR;rw[zCJ] at ha;simp only[wJ,List.isEmpty_nil,List.isEmpty_cons,xE,List.map_nil,List.map_cons,intC] at ha;clear hh hc hp;generalize xK 8 [] [] false false [k] (plW L i)=N at *;generalize t2.s=ts at *;generalize (plW L i).1=p1 at *;generalize (plW L i).2=p2 at *;generalize Tree.sl nl cl (L.map Tok.c)=l at *;generalize hI:T1.length=len at *;have hf:∀x:Heap,x=ru l (i1+1) n (T1++[N])→RUo l T (.ok len (i1+1) n (T1++[N])) (.val (.t (.int .i64 (len:Nat)))) x:=fun x h=>⟨rfl,h⟩
 clear hI
 (have F_:=xaO)
 rcases T1 with _|⟨t1,R1⟩
 ·exact absurd rfl hz
 rcases T with _|⟨t0,T0⟩
 all_goals simp only[List.cons_append] at ha hf<;>simp only[ru,ruT,ruR] at a1 b1 b2 hl h hf m1 ha ⊢<;>(try generalize (t0::T0).map Test.c=E0 at *)<;>generalize (t1::R1).map Test.c=E1 at *<;>generalize (t1::(R1++[N])).map Test.c=E2 at *<;>refine xU zBs rfl ?_ (by kernel_rfl)<;>(simp only[zT,List.length_cons,List.length_nil,Nat.zero_add,Nat.reduceAdd];show W CC _ 132 (zA 78) _ _ _)<;>(refine gA ?_)<;>(refine aJ ?_)<;>exact hf _ rfl
end Go.Ab
