/- Lemmas. -/
import Derived.Test.YtchgjnkleakhoaaGreatDoorG13
import Derived.Test.YtchgjnkleakhoaaGreatDoorG14
import Derived.Test.YtchgjnkleakhoaaGreatDoorG15
set_option maxRecDepth 1000000
set_option maxHeartbeats 40000000
set_option linter.all false
namespace Go.Ab
open Go.Proofs
def zWI {nl cl:Bool} {L:List Tok} (hL:L.length<4000000000) {i n:Nat} {T:List Test} (hi:i≤L.length) (hT:T.length<4294967295) (hA:anyX L i=false) (hB:notX L i=false) (hC:xQ L i=false) :
  ∃o h',Om CC 161 [.box 0 0] (ru (.sl nl cl (L.map Tok.c)) i n T)=some (o,h')∧RUo (.sl nl cl (L.map Tok.c)) T (match jF L i zBD with
   |some op=>cmpX L op (plW L i) (i+1) n T
   |none=>cmpX L 2 (plW L i) i n T) o h':=by
 obtain⟨op,j,hsg,hj,hr⟩:=yDX L i n hi T;have key:∃o h',Om CC 161 [.box 0 0] (ru (.sl nl cl (L.map Tok.c)) i n T)=some (o,h')∧RUo (.sl nl cl (L.map Tok.c)) T (cmpX L op (plW L i) j n T) o h':=by
  cases T with
  |nil =>
   by_cases he:(zH L j).2.2=0
   ·exact zXZ hL hi hsg hj he hA hB hC
   exact zZF hL hi hsg hj he hA hB hC
  |cons t0 T0=>exact zYD hL hi hT hsg hj hA hB hC
 rw[← hr] at key;exact key
attribute [local irreducible] W RW RR
def OneH(nl cl:Bool)(L:List Tok)(f:Nat):Prop:=∀g,g<f→∀(i n:Nat) (T:List Test) (r:RU),UX L g .one i n T=some r→i≤L.length→n≤4→T.length+(L.length - i)≤4000000000 →
 ∃o h',Om CC 161 [.box 0 0] (ru (.sl nl cl (L.map Tok.c)) i n T)=some (o,h')∧RUo (.sl nl cl (L.map Tok.c)) T r o h'
def finR(p:Int×Int):RU→RU
 |.oks [k] i n T=>.ok k i n T
 |.oks ks i n T=>.ok T.length i n (T++[xJ 9 [] [] false false ks p])
 |r=>r
structure TstI where
 g:Nat
 i:Nat
 t:Test
 r:List Test
 K:List Nat
def zLF(K:List Nat)(b:Nat):(xA (K++[b])).map intC=(xA K).map intC++[[.int .i64 (b:Int)]]:=by
 unfold xA;rw[List.map_append,List.map_append];rfl
def xaQ:=c5 zF zG zQ zE (c5 zD zI yM zB (c5 xC zO zL yL (c5 zN zX zS xZ (c5 xX zXQ qJ zTL (c3 zS1 zAF zAH)))))
def zNm {nl cl:Bool} {L:List Tok} (hL:L.length<4000000000) {i n f:Nat} {T:List Test} {r:RU} (hone:OneH nl cl L (f+1)) (h:UX L (f+1) .tests i n T=some r) (hi:i≤L.length) (hn:n≤4) (hB:T.length+(L.length - i)≤4000000000) :
  ∃o h',Om CC 96 [.box 0 0] (ru (.sl nl cl (L.map Tok.c)) i n T)=some (o,h')∧RUo (.sl nl cl (L.map Tok.c)) T r o h':=by
 rw[UX] at h;have hpl:=jM nl cl L i n T;cases h1:UX L f .one i n T with
 |none=>rw[h1] at h;cases h
 |some rr =>
  have hk:=yH _ _ _ _ _ _ h1 hi;obtain⟨o1,hh1,hcall,hr⟩:=hone f (Nat.lt_succ_self f) i n T rr h1 hi hn hB;rw[h1] at h;cases rr with
  |oks ks a b c=>exact absurd hr id
  |pan e i1 =>
   cases h;obtain⟨rfl,n1,T1,rfl,hg⟩:=hr;generalize Tree.sl nl cl (L.map Tok.c)=l at *;have hf:∀x:Heap,x=ru l i1 n1 T1→RUo l T (.pan e i1) (.pan (.t (ustop i1 e))) x:=fun x h=>⟨rfl,n1,T1,h,hg⟩
   simp only[ustop] at hf hcall;generalize (plW L i).1=p1 at *;generalize (plW L i).2=p2 at *;clear hone h1 hk
   (have F_:=xaQ)
   rcases T with _|⟨t0,T0⟩<;>rcases T1 with _|⟨t1,R1⟩<;>first|exact absurd rfl (hg (List.cons_ne_nil _ _))|skip
   all_goals simp only[ru,ruT,ruR] at hpl hcall hf ⊢<;>(try generalize (t0::T0).map Test.c=E0 at *)<;>(try generalize (t1::R1).map Test.c=E1 at *)<;>refine xU zUc rfl ?_ (by kernel_rfl)<;>(simp only[zV,List.length_cons,List.length_nil,Nat.zero_add,Nat.reduceAdd];show W CC _ 41 (zA 96) _ _ _)<;>(refine gA ?_)<;>(refine aM ?_)<;>exact hf _ rfl
  |ok k i1 n1 T1 =>
   obtain⟨-,k1,k2,k3,k4,k5,k6⟩:=hk;subst k3;dsimp only at h;obtain⟨rl,hrl,hfin⟩:∃rl,UX L f (.list [k]) i1 n1 T1=some rl∧r=finR (plW L i) rl:=by
    cases h2:UX L f (.list [k]) i1 n1 T1 with
    |none=>rw[h2] at h;cases h
    |some rl =>
     rw[h2] at h;refine⟨rl,rfl,?_⟩;cases rl with
     |ok a b c d=>cases h;rfl
     |pan a b=>cases h;rfl
     |oks ks b c d =>
      match ks with
      |[]=>cases h;rfl
      |[x]=>cases h;rfl
      |x::y::z=>cases h;rfl
   clear h;rcases T1 with _|⟨t1,R1⟩
   ·exact absurd k5 (by simp)
   obtain⟨rfl,rfl⟩:=hr;generalize hp:plW L i=p at *;have hTT:T≠[]→(t1::R1)≠[]:=fun _=>List.cons_ne_nil _ _
   generalize hl:Tree.sl nl cl (L.map Tok.c)=l at *
   (have F_:=xaQ)
   rcases T with _|⟨t0,T0⟩
   all_goals simp only[ru,ruT,ruR] at hpl hcall ⊢<;>(try generalize (t0::T0).map Test.c=E0 at hpl hcall ⊢)<;>generalize hE1:(t1::R1).map Test.c=E1 at hcall<;>refine xU zUc rfl ?_ (by kernel_rfl)<;>(simp only[zV,List.length_cons,List.length_nil,Nat.zero_add,Nat.reduceAdd];show W CC _ 41 (zA 96) _ _ _)<;>clear hp<;>(have hone':=Hid.mk hone)<;>(have hfin':=Hid.mk hfin)<;>(have hE1':=Hid.mk hE1)<;>(have hrl':=Hid.mk hrl)<;>clear hfin hE1 hrl hone h1<;>(refine gA ?_)<;>(have hE1:=hE1'.h)<;>subst hE1<;>refine zY (α:=TstI) (fun x=>⟨[(0,.box 0 0),(3,.box 2 0),(4,.hs 3 0)],[.box [.t l,.t (.int .i64 (x.i:Int)),.t (.int .i64 (n1:Int)),.hs 1 0],.arr 8 0 false ((x.t::x.r).map Test.c),.box [.t (.int .i64 p.1),.t (.int .i64 p.2)],.arr 1 0 false ((xA x.K).map intC)]⟩) (fun x=>x.g) (fun x=>UX L x.g (.list x.K) x.i n1 (x.t::x.r)=some rl∧x.K≠[]∧x.g≤f∧x.i≤L.length∧(x.t::x.r).length+(L.length - x.i)≤4000000000∧x.K.length+(L.length - x.i)≤4000000000) ⟨f,i1,t1,R1,[k]⟩ (by exact aTd) ⟨hrl'.h,List.cons_ne_nil _ _,Nat.le_refl _,k2,by dsimp only;omega,by(dsimp only[List.length_cons,List.length_nil];omega)⟩ ?_<;>clear hcall hpl hrl' hE1'
   ·rintro⟨g,i,t,R,K⟩ ⟨h,hK,hg,hi,hB,hKB⟩;dsimp only at h hK hg hi hB hKB ⊢;rcases g with _|g
    ·simp [UX] at h
    rw[UX] at h;have u1:=uis0 nl cl L i n1 (t::R) [44] (by omega);have u2:=zOx nl cl L i n1 (t::R) (by omega);rw[hl] at u1 u2;simp only[ru,ruT,ruR] at u1 u2;have hEK:((xA K).map intC).length=K.length:=by unfold xA;rw[List.length_map,List.length_map]
    have hlens:lens 1 ((xA K).map intC)=true:=by unfold lens;rw[List.all_map];exact List.all_eq_true.2 fun x _=>rfl
    have hsm:decide (((xA K).map intC).length+1<4294967296)=true:=by(rw[decide_eq_true_eq,hEK];omega)
    by_cases hc:(isW L i [44]&&!qR L (i+1))=true
    ·rw[if_pos hc] at h;rw[Bool.and_eq_true] at hc;have hs:qR L (i+1)=false:=by(have:=hc.2;simpa using this)
     rw[hc.1] at u1;rw[hs] at u2;have hlt:=yA hc.1;have w1:=wI64 i (by omega);clear hc hs;cases hh:UX L g .one (i+1) n1 (t::R) with
     |none=>rw[hh] at h;cases h
     |some rr =>
      have hk:=yH _ _ _ _ _ _ hh (by omega);obtain⟨o2,hh2,hcall,hr⟩:=hone'.h g (by omega) (i+1) n1 (t::R) rr hh (by omega) hn (by omega);rw[hl] at hcall hr;rw[hh] at h;cases rr with
      |oks ks a b c=>exact absurd hr id
      |pan e i2 =>
       cases h;have hfin:=hfin'.h;obtain⟨rfl,n2,T2,rfl,hg2⟩:=hr;rcases T2 with _|⟨t2,R2⟩
       ·exact absurd rfl (hg2 (List.cons_ne_nil _ _))
       have hf:∀x:Heap,x=ru l i2 n2 (t2::R2)→RUo l [] r (.pan (.t (ustop i2 e))) x:=fun x h=>by
        rw[hfin];exact⟨rfl,n2,_,h,fun _=>List.cons_ne_nil _ _⟩
       simp only[ustop] at hf hcall;simp only[ru,ruT,ruR] at hf hcall;clear hfin hfin' hone' hTT;generalize (t::R).map Test.c=E0 at *;generalize (t2::R2).map Test.c=E1 at *;generalize (xA K).map intC=EK at *
       (refine gA ?_)
       refine aM ?_;exact hf _ rfl
      |ok b i2 n2 T2 =>
       obtain⟨-,k1,k2,k3,k4,k5,k6⟩:=hk;subst k3;dsimp only at h;rcases T2 with _|⟨t2,R2⟩
       ·exact absurd k5 (by simp)
       obtain⟨rfl,rfl⟩:=hr;have hsn:=Hid.mk (zLF K b);simp only[ru,ruT,ruR] at hcall;generalize hE0:(t::R).map Test.c=E0 at *;generalize hE1:(t2::R2).map Test.c=E1 at hcall;generalize hEKK:(xA K).map intC=EK at *;have hE1':=Hid.mk hE1;have hpost:UX L g (.list (K++[b])) i2 n2 (t2::R2)=some rl∧K++[b]≠[]∧g≤f∧i2≤L.length∧(t2::R2).length+(L.length - i2)≤4000000000∧(K++[b]).length+(L.length - i2)≤4000000000:=⟨h,by simp,by omega,k2,by omega,by(rw[List.length_append,List.length_cons,List.length_nil];omega)⟩
       clear h hE1 hEKK hE0 hEK
       (refine gA ?_)
       have hE1:=hE1'.h;subst hE1;rw[← hsn.h];exact zC ⟨g,i2,t2,R2,K++[b]⟩ (by dsimp only;omega) hpost (by exact aTd)
    rw[if_neg hc] at h;cases h;have hfin:=hfin'.h;have hc':isW L i [44]=false∨(isW L i [44]=true∧qR L (i+1)=true):=by
     generalize isW L i [44]=qa at *;generalize qR L (i+1)=qb at *;cases qa<;>cases qb<;>simp_all
    clear hc;generalize isW L i [44]=qa at *;generalize qR L (i+1)=qb at *;rcases K with _|⟨k0,Kr⟩
    ·exact absurd rfl hK
    rcases Kr with _|⟨kk,Kr⟩
    ·have hf:∀x:Heap,x=ru l i n1 (t::R)→RUo l [] r (.val (.t (.int .i64 (k0:Nat)))) x:=fun x h=>by
      rw[hfin];exact⟨rfl,h⟩
     have hE:(xA [k0]).map intC=[[.int .i64 (k0:Int)]]:=rfl;rw[hE];simp only[ru,ruT,ruR] at hf;clear hfin hfin' hone' hTT hEK hlens hsm hE;generalize (t::R).map Test.c=E0 at *;have e1:(((1:Nat):Int)==1)=true:=rfl;have le00:((0:Int)≤0)=True:=by simp
     have lt01:((0:Int)<((1:Nat):Int))=True:=by simp
     have tn0:Int.toNat 0=0:=rfl;rcases hc' with rfl|⟨rfl,rfl⟩
     all_goals (refine gA ?_)<;>(refine aJ ?_)<;>exact hf _ rfl
    have hnode:=zBV l i n1 (t::R) (xJ 9 [] [] false false (k0::kk::Kr) p) (by omega);rw[zC7] at hnode;simp only[wG,List.isEmpty_nil,List.isEmpty_cons,List.map_nil] at hnode;have hf:∀x:Heap,x=ru l i n1 (t::R++[xJ 9 [] [] false false (k0::kk::Kr) p])→RUo l [] r (.val (.t (.int .i64 ((t::R).length:Nat)))) x:=fun x h=>by
     rw[hfin];exact⟨rfl,h⟩
    generalize xJ 9 [] [] false false (k0::kk::Kr) p=N at *;generalize (t::R).length=lenT at *;rw[List.cons_append] at hnode hf;simp only[ru,ruT,ruR] at hf hnode;have e1:(((k0::kk::Kr).length:Int)==1)=false:=by(simp only[List.length_cons,beq_eq_false_iff_ne,ne_eq];omega)
    rw[← hEK] at e1;clear hfin hfin' hone' hTT hEK hlens hsm;generalize (t::R).map Test.c=E0 at *;generalize (t::(R++[N])).map Test.c=E1 at *;generalize (xA (k0::kk::Kr)).map intC=EK at *;rcases hc' with rfl|⟨rfl,rfl⟩
    all_goals (refine gA ?_)<;>(refine aJ ?_)<;>exact hf _ rfl
   rintro⟨g,i,t,R,K⟩ ⟨h,hK,hg,hi,hB,hKB⟩;dsimp only at h hK hg hi hB hKB ⊢;rcases g with _|g
   ·simp [UX] at h
   rw[UX] at h;have u1:=uis0 nl cl L i n1 (t::R) [44] (by omega);have u2:=zOx nl cl L i n1 (t::R) (by omega);rw[hl] at u1 u2;simp only[ru,ruT,ruR] at u1 u2;have hEK:((xA K).map intC).length=K.length:=by unfold xA;rw[List.length_map,List.length_map]
   have hlens:lens 1 ((xA K).map intC)=true:=by unfold lens;rw[List.all_map];exact List.all_eq_true.2 fun x _=>rfl
   have hsm:decide (((xA K).map intC).length+1<4294967296)=true:=by(rw[decide_eq_true_eq,hEK];omega)
   by_cases hc:(isW L i [44]&&!qR L (i+1))=true
   ·rw[if_pos hc] at h;rw[Bool.and_eq_true] at hc;have hs:qR L (i+1)=false:=by(have:=hc.2;simpa using this)
    rw[hc.1] at u1;rw[hs] at u2;have hlt:=yA hc.1;have w1:=wI64 i (by omega);clear hc hs;cases hh:UX L g .one (i+1) n1 (t::R) with
    |none=>rw[hh] at h;cases h
    |some rr =>
     have hk:=yH _ _ _ _ _ _ hh (by omega);obtain⟨o2,hh2,hcall,hr⟩:=hone'.h g (by omega) (i+1) n1 (t::R) rr hh (by omega) hn (by omega);rw[hl] at hcall hr;rw[hh] at h;cases rr with
     |oks ks a b c=>exact absurd hr id
     |pan e i2 =>
      cases h;have hfin:=hfin'.h;obtain⟨rfl,n2,T2,rfl,hg2⟩:=hr;rcases T2 with _|⟨t2,R2⟩
      ·exact absurd rfl (hg2 (List.cons_ne_nil _ _))
      have hf:∀x:Heap,x=ru l i2 n2 (t2::R2)→RUo l (t0::T0) r (.pan (.t (ustop i2 e))) x:=fun x h=>by
       rw[hfin];exact⟨rfl,n2,_,h,fun _=>List.cons_ne_nil _ _⟩
      simp only[ustop] at hf hcall;simp only[ru,ruT,ruR] at hf hcall;clear hfin hfin' hone' hTT;generalize (t::R).map Test.c=E0 at *;generalize (t2::R2).map Test.c=E1 at *;generalize (xA K).map intC=EK at *
      (refine gA ?_)
      refine aM ?_;exact hf _ rfl
     |ok b i2 n2 T2 =>
      obtain⟨-,k1,k2,k3,k4,k5,k6⟩:=hk;subst k3;dsimp only at h;rcases T2 with _|⟨t2,R2⟩
      ·exact absurd k5 (by simp)
      obtain⟨rfl,rfl⟩:=hr;have hsn:=Hid.mk (zLF K b);simp only[ru,ruT,ruR] at hcall;generalize hE0:(t::R).map Test.c=E0 at *;generalize hE1:(t2::R2).map Test.c=E1 at hcall;generalize hEKK:(xA K).map intC=EK at *;have hE1':=Hid.mk hE1;have hpost:UX L g (.list (K++[b])) i2 n2 (t2::R2)=some rl∧K++[b]≠[]∧g≤f∧i2≤L.length∧(t2::R2).length+(L.length - i2)≤4000000000∧(K++[b]).length+(L.length - i2)≤4000000000:=⟨h,by simp,by omega,k2,by omega,by(rw[List.length_append,List.length_cons,List.length_nil];omega)⟩
      clear h hE1 hEKK hE0 hEK
      (refine gA ?_)
      have hE1:=hE1'.h;subst hE1;rw[← hsn.h];exact zC ⟨g,i2,t2,R2,K++[b]⟩ (by dsimp only;omega) hpost (by exact aTd)
   rw[if_neg hc] at h;cases h;have hfin:=hfin'.h;have hc':isW L i [44]=false∨(isW L i [44]=true∧qR L (i+1)=true):=by
    generalize isW L i [44]=qa at *;generalize qR L (i+1)=qb at *;cases qa<;>cases qb<;>simp_all
   clear hc;generalize isW L i [44]=qa at *;generalize qR L (i+1)=qb at *;rcases K with _|⟨k0,Kr⟩
   ·exact absurd rfl hK
   rcases Kr with _|⟨kk,Kr⟩
   ·have hf:∀x:Heap,x=ru l i n1 (t::R)→RUo l (t0::T0) r (.val (.t (.int .i64 (k0:Nat)))) x:=fun x h=>by
     rw[hfin];exact⟨rfl,h⟩
    have hE:(xA [k0]).map intC=[[.int .i64 (k0:Int)]]:=rfl;rw[hE];simp only[ru,ruT,ruR] at hf;clear hfin hfin' hone' hTT hEK hlens hsm hE;generalize (t::R).map Test.c=E0 at *;have e1:(((1:Nat):Int)==1)=true:=rfl;have le00:((0:Int)≤0)=True:=by simp
    have lt01:((0:Int)<((1:Nat):Int))=True:=by simp
    have tn0:Int.toNat 0=0:=rfl;rcases hc' with rfl|⟨rfl,rfl⟩
    all_goals (refine gA ?_)<;>(refine aJ ?_)<;>exact hf _ rfl
   have hnode:=zBV l i n1 (t::R) (xJ 9 [] [] false false (k0::kk::Kr) p) (by omega);rw[zC7] at hnode;simp only[wG,List.isEmpty_nil,List.isEmpty_cons,List.map_nil] at hnode;have hf:∀x:Heap,x=ru l i n1 (t::R++[xJ 9 [] [] false false (k0::kk::Kr) p])→RUo l (t0::T0) r (.val (.t (.int .i64 ((t::R).length:Nat)))) x:=fun x h=>by
    rw[hfin];exact⟨rfl,h⟩
   generalize xJ 9 [] [] false false (k0::kk::Kr) p=N at *;generalize (t::R).length=lenT at *;rw[List.cons_append] at hnode hf;simp only[ru,ruT,ruR] at hf hnode;have e1:(((k0::kk::Kr).length:Int)==1)=false:=by(simp only[List.length_cons,beq_eq_false_iff_ne,ne_eq];omega)
   rw[← hEK] at e1;clear hfin hfin' hone' hTT hEK hlens hsm;generalize (t::R).map Test.c=E0 at *;generalize (t::(R++[N])).map Test.c=E1 at *;generalize (xA (k0::kk::Kr)).map intC=EK at *;rcases hc' with rfl|⟨rfl,rfl⟩
   all_goals (refine gA ?_)<;>(refine aJ ?_)<;>exact hf _ rfl
def yCX{nl cl:Bool}{L:List Tok}(hL:L.length<4000000000):∀f,OneH nl cl L f:=by
 intro f
 induction f with
 |zero=>intro g hg;omega
 |succ f ih =>
  intro g hg i n T r h hi hn hB;rcases Nat.lt_or_ge g f with hlt|hge
  ·exact ih g hlt i n T r h hi hn hB
  obtain rfl:g=f:=by omega
  rcases g with _|g
  ·simp [UX] at h
  rw[UX] at h;cases hA:anyX L i with
  |true =>
   rw[hA,if_pos rfl] at h;cases h;exact zVL hL hi (by omega) hA
  |false =>
   rw[hA,if_neg (by simp)] at h;cases hN:notX L i with
   |true =>
    rw[hN,if_pos rfl] at h
    by_cases h4:n=4
    ·rw[if_pos h4] at h;cases h;subst h4;exact zSQ hL hi hN
    rw[if_neg h4] at h;have hlt:i+1<L.length:=by
     unfold notX at hN;rw[Bool.and_eq_true] at hN;exact yA hN.2
    cases h1:UX L g .tests (i+2) (n+1) T with
    |none=>rw[h1] at h;cases h
    |some rr =>
     rcases g with _|g
     ·simp [UX] at h1
     obtain⟨o1,hh1,hc,hr⟩:=zNm (f:=g) hL (fun g' hg'=>ih g' (by omega)) h1 (by omega) (by omega) (by omega);have hk:=yH _ _ _ _ _ _ h1 (by omega);rw[h1] at h;cases rr with
     |oks ks a b c=>exact absurd hr id
     |pan e i1=>cases h;exact zVn hL hi (by omega) hN hc hr
     |ok k i1 n1 T1 =>
      obtain⟨-,k1,k2,k3,k4,k5,k6⟩:=hk;subst k3;dsimp only at h;have hne:T1≠[]:=fun hh=>by rw[hh] at k5;simp at k5
      cases hw:isW L i1 [41] with
      |true =>
       rw[hw,if_pos rfl,Nat.add_sub_cancel] at h;cases h;exact zVI hL hi (by omega) hN hne (by omega) hc hr hw
      |false =>
       rw[hw,if_neg (by simp)] at h;cases h;exact zRv hL hi (by omega) hN hne k2 hc hr hw
   |false =>
    rw[hN,if_neg (by simp)] at h;cases hR:xQ L i with
    |true =>
     rw[hR,if_pos rfl] at h;cases h;exact zXa hL hi (by omega) hR
    |false =>
     rw[hR,if_neg (by simp)] at h;have hc:=zWI (nl:=nl) (cl:=cl) hL (n:=n) hi (T:=T) (by omega) hA hN hR;cases hs:jF L i zBD with
     |some op=>rw[hs] at h hc;cases h;exact hc
     |none=>rw[hs] at h hc;cases h;exact hc
def xaR:=c5 zF zG zQ zE (c5 zD zNO zI yM (c5 zB zO zL yL (c3 zN zU (c2 zN3 zVs))))
def zJD(ids:Nat×Nat×Nat)(h:Heap)(hc:canon h h.length []=some ([],h)) :
  Om CC (xD+159) (.t .nilptr::[.box ids.1 0,.box ids.2.1 0,.box ids.2.2 0]) h=some (.val (.t .nilptr),h):=by
 obtain⟨u',h',h1,h2,h3⟩:=zG6 (C:=CC) (g:=159) (fn:=Tryz.f159) (u:=none) (args:=[.box ids.1 0,.box ids.2.1 0,.box ids.2.2 0]) (h:=h)
  (R:=fun u h'=>u=none∧h'=h) (by kernel_rfl) (by kernel_rfl) zQJ rfl (by kernel_rfl) rfl (by
  (have F_:=xaR)
  have u20:und Tryz.prog 20=some (.interface #[]):=by kernel_rfl
  show WS CC _ 16 (zA 159) _ _ _ _
  refine zLd rfl (zLz ?_)
  show W CC _ _ _ _ _ _
  simp only[recovered,zV,Nat.zero_add,Nat.reduceAdd]
  (refine gA ?_)
  exact⟨.inl rfl,by kernel_rfl,⟨.tup [],by kernel_rfl⟩,h,hc,rfl,rfl⟩)
 subst h2 h3;exact h1
def zSl (i e n5 n6:Int) :
  Om CC (xD+159) (.agg [.t (.ifc 243 (.agg [.int .i64 i,.int .i64 e])),.t (.bool false)]::[.box 0 0,.box 1 0,.box 2 0]) [.box [.t (.sl true true [])],.box [.t (.int .i64 n5)],.box [.t (.int .i64 n6)]]
   = some (.val (.t .nilptr),[.box [.t (.sl true true [])],.box [.t (.int .i64 i)],.box [.t (.int .i64 e)]]):=by
 obtain⟨u',h',h1,h2,h3⟩:=zG6 (C:=CC) (g:=159) (fn:=Tryz.f159) (u:=some (.ifc 243 (.agg [.int .i64 i,.int .i64 e]),false)) (args:=[.box 0 0,.box 1 0,.box 2 0]) (h:=[.box [.t (.sl true true [])],.box [.t (.int .i64 n5)],.box [.t (.int .i64 n6)]])
  (R:=fun u h'=>u=none∧h'=[.box [.t (.sl true true [])],.box [.t (.int .i64 i)],.box [.t (.int .i64 e)]]) (by kernel_rfl) (by kernel_rfl) zQJ rfl (by kernel_rfl) rfl (by
  (have F_:=xaR)
  have u20:und Tryz.prog 20=some (.interface #[]):=by kernel_rfl
  obtain⟨fs,h133⟩:=zKI
  show WS CC _ 16 (zA 159) _ _ _ _
  refine zLd rfl (zLz ?_)
  show W CC _ _ _ _ _ _
  simp only[recovered,zV,Nat.zero_add,Nat.reduceAdd,List.length_cons,List.length_nil]
  (refine gA ?_)
  exact⟨.inl rfl,by kernel_rfl,⟨.tup [],by kernel_rfl⟩,_,by kernel_rfl,rfl,rfl⟩)
 subst h2 h3;exact h1
def zAW(T:List Test):Tree:=.sl T.isEmpty T.isEmpty (T.map Test.c)
def resU(i:Nat):RU→List Test×Nat×Int
 |.ok _ i' _ T=>if 30<T.length then ([],i,7) else (T,i',0)
 |.pan e i'=>([],i',e)
 |_=>([],0,4)
def zFg(x:List Test×Nat×Int):Out×Heap:=(.val (.tup [.t (zAW x.1),.t (.int .i64 (x.2.1:Nat)),.t (.int .i64 x.2.2)]),[])
def zR7 (nl cl:Bool) (L:List Tok) (hL:L.length<4000000000) (i:Nat) (hi:i≤L.length) :
  Om CC 95 [.t (.sl nl cl (L.map Tok.c)),.t (.int .i64 (i:Int)),.t (.fn 96)] []=some (zFg (xS L i)):=by
 obtain⟨r,hr⟩:=zD0 (l:=L) (4 * (L.length - i)+2+1) .tests i 0 [] (by simp [UC.need]) hi;have hk:=yH _ _ _ _ _ _ hr hi;obtain⟨o1,hh1,hc,hro⟩:=zNm (nl:=nl) (cl:=cl) hL (yCX hL _) hr hi (by omega) (by simp;omega);have hp:xS L i=resU i r:=by
  have hr':UXF L i=some r:=hr;unfold xS;rw[hr'];cases r<;>rfl
 rw[hp];have d0:decide ((i:Int)<0)=false:=by simp
 have d1:decide ((i:Int) > ((L.map Tok.c).length:Int))=false:=by simp;omega
 clear hr hp;generalize L.map Tok.c=l at *
 suffices hh:∃o h',Om CC 95 [.t (.sl nl cl l),.t (.int .i64 (i:Int)),.t (.fn 96)] []=some (o,h')∧(o,h')=zFg (resU i r) by
  obtain⟨o,h',h1,h2⟩:=hh;rw[h1,h2]
 refine zHk yC6 rfl ?_ (by kernel_rfl)
 (have F_:=c5 zF zG zQ zE (c5 zD zI yM zB (c5 zO zL yL zN (c5 zU zX zS zSW (c3 xZ xX (c2 yGE zCI))))))
 have z0:((0:Nat):Int)=0:=rfl;have hpr:=zZ 96;have hpr:=fun x=>hpr x (by decide)
 cases r with
 |oks a b c d=>exact absurd hro id
 |pan e i1 =>
  obtain⟨rfl,n1,T1,rfl,-⟩:=hro;have hdf:=zSl i1 e 0 0;rcases T1 with _|⟨t1,R1⟩
  ·simp only[ru,ruT,ruR,z0,ustop] at hc;clear hk z0
   (simp only[zV,List.length_cons,List.length_nil,Nat.zero_add,Nat.reduceAdd];show W CC _ 41 (zA 95) _ _ _)
   (refine gA ?_)
   refine zFV ?_;refine zGc ?_;refine zEz ?_
   rfl
  simp only[ru,ruT,ruR,z0,ustop] at hc;generalize (t1::R1).map Test.c=E1 at *;clear hk z0
  (simp only[zV,List.length_cons,List.length_nil,Nat.zero_add,Nat.reduceAdd];show W CC _ 41 (zA 95) _ _ _)
  (refine gA ?_)
  refine zFV ?_;refine zGc ?_;refine zEz ?_
  rfl
 |ok k i1 n1 T1 =>
  obtain⟨-,k1,k2,k3,k4,k5,k6⟩:=hk;obtain⟨rfl,rfl⟩:=hro;rcases T1 with _|⟨t1,R1⟩
  ·exact absurd k5 (by simp)
  simp only[ru,ruT,ruR,z0] at hc;clear z0;have e1:resU i (.ok k i1 n1 (t1::R1))=if 30<(t1::R1).length then ([],i,7) else (t1::R1,i1,0):=rfl
  rw[e1];clear e1 k1 k2 k3 k4 k5 k6;have hl:(t1::R1).length=((t1::R1).map Test.c).length:=by rw[List.length_map]
  by_cases h60:30<(t1::R1).length
  ·rw[if_pos h60];rw[hl] at h60;clear hl;generalize (t1::R1).map Test.c=E1 at *;have h60':decide ((E1.length:Int) > 30)=true:=by(rw[decide_eq_true_eq];omega)
   have hdf:=zJD (0,1,2) [.box [.t (.sl true true [])],.box [.t (.int .i64 (i:Int))],.box [.t (.int .i64 7)]] (by kernel_rfl);dsimp only at hdf
   (simp only[zV,List.length_cons,List.length_nil,Nat.zero_add,Nat.reduceAdd];show W CC _ 41 (zA 95) _ _ _)
   (refine gA ?_)
   first|refine zGd ?_|refine zDl ?_
   refine zGc ?_;refine zEz ?_
   rfl
  rw[if_neg h60];rw[hl] at h60;have hE2:zFg (t1::R1,i1,0)=(.val (.tup [.t (.sl false false ((t1::R1).map Test.c)),.t (.int .i64 (i1:Int)),.t (.int .i64 0)]),[]):=rfl;rw[hE2];clear hl hE2;generalize (t1::R1).map Test.c=E1 at *;have h60':decide ((E1.length:Int) > 30)=false:=by(rw[decide_eq_false_iff_not];omega)
  have hdf:=zJD (0,2,3) [.box [.hs 1 0],.arr 8 0 false E1,.box [.t (.int .i64 (i1:Int))],.box [.t (.int .i64 0)]] (by kernel_rfl);dsimp only at hdf
  (simp only[zV,List.length_cons,List.length_nil,Nat.zero_add,Nat.reduceAdd];show W CC _ 41 (zA 95) _ _ _)
  (refine gA ?_)
  first|refine zGd ?_|refine zDl ?_
  refine zGc ?_;refine zEz ?_
  rfl
def zSK (nl cl:Bool) (L:List Tok) (hL:L.length<4000000000) (i:Nat) (hi:i≤L.length) :
  Om CC 64 [.t (.sl nl cl (L.map Tok.c)),.t (.int .i64 (i:Int))] []=some (zFg (xS L i)):=by
 have h:=zR7 nl cl L hL i hi;simp only[zFg,zAW] at h ⊢;generalize xS L i=r at *;obtain⟨T,j,e⟩:=r;dsimp only at *;generalize T.map Test.c=A at *;generalize T.isEmpty=b at *;refine zK yBR rfl ?_
 (have F_:=c5 zF zG zE zD (c5 zI zB zX zS (c3 zSW yHw yHE));show W CC 0 13 (zA 64) _ ⟨[(0,_),(1,_)],[]⟩ _)
 (refine gA ?_)
 all_goals refine aK ?_ ?_<;>(first|rfl)
def xaS:=c5 zF zG zE zD (c5 zI zB zX zS zXF)
def zM1 (nl cl:Bool) (L:List Tok) (hL:L.length<4000000000) :
  ∃p:Int×Int,Om CC 65 [.t (.sl nl cl (L.map Tok.c))] []=some (.val (.t (.agg [.int .i64 p.1,.int .i64 p.2])),[])∧True:=by
 refine zJ yBY rfl ?_;have hlen:(L.map Tok.c).length=L.length:=List.length_map ..
 by_cases h0:L.length=0
 ·have hd:(((L.map Tok.c).length:Int)==0)=true:=by rw[hlen,h0];rfl
  generalize L.map Tok.c=l at *
  (have F_:=xaS;show W CC 0 41 (zA 65) _ ⟨[(0,_)],[]⟩ _)
  (repeat' first|refine gA ?_|refine gT ?_ ?_<;>intro hv<;>try cases hv;done|fail)
  all_goals refine aJ ?_<;>exact⟨⟨_,_⟩,⟨rfl,rfl⟩,trivial⟩
 have hd:(((L.map Tok.c).length:Int)==0)=false:=by(rw[hlen,beq_eq_false_iff_ne];omega)
 obtain⟨t,ht⟩:∃t,L[L.length - 1]?=some t:=⟨_,List.getElem?_eq_getElem (by omega)⟩;have hT:=vE ht;have hw:IntKind.i64.wrap (((L.map Tok.c).length:Int) - 1)=((L.length - 1:Nat):Int):=by rw[hlen,wrap64]<;>omega
 clear ht;generalize L.map Tok.c=l at *;generalize L.length - 1=j at *;obtain⟨tk,ts,⟨vk,vn,vs⟩,tl,tc⟩:=t;dsimp only at *;clear hlen
 (have F_:=xaS;show W CC 0 41 (zA 65) _ ⟨[(0,_)],[]⟩ _)
 (repeat' first|refine gA ?_|refine gT ?_ ?_<;>intro hv|fail)
 all_goals refine aJ ?_<;>exact⟨⟨_,_⟩,⟨rfl,rfl⟩,trivial⟩
def zIU(L:List Tok):List Test×Int :=
 if (xS L 0).2.2=0 then (if (xS L 0).2.1<L.length then ([],4) else ((xS L 0).1,0)) else ([],(xS L 0).2.2)
def xaT:=c5 zF zG zE zD (c5 zI zB zU zX (c5 zS zLk zEh zKs zEl))
def zW2 {vp:List Nat→Val×Int} (hvp:VPH vp) (s:List Nat) (hb:∀b ∈ s,b<256) (hs:s.length≤65536) (hLb:∀L:List Tok,lexB vp s=some (L.map Tok.b)→L.length<4000000000) :
  ∃L e0,zNR vp s L e0∧∃p:Int×Int,Om CC 38 [.t (.str s)] []=some (.val (.tup [.t (zAW (if e0=0 then (zIU L).1 else [])),.t (.agg [.int .i64 p.1,.int .i64 p.2]),.t (.int .i64 (if e0=0 then (zIU L).2 else e0))]),[])∧True:=by
 obtain⟨o,h',hlex,rfl,L,line,col,e0,rfl,hL⟩:=zSC hvp s hb hs;refine⟨L,e0,hL,?_⟩;simp only[zOU] at hlex;rcases hL with ⟨rfl,hx⟩|⟨he,rfl,hx⟩
 ·have hLl:=hLb L hx;rw[if_pos rfl,if_pos rfl];have h1:=zSK L.isEmpty L.isEmpty L hLl 0 (Nat.zero_le _);obtain⟨bp,h2,-⟩:=zM1 L.isEmpty L.isEmpty L hLl;have hlen:(L.map Tok.c).length=L.length:=List.length_map ..;unfold zIU;have hle:(xS L 0).2.1<L.length→∃t,L[(xS L 0).2.1]?=some t:=fun h=>⟨_,List.getElem?_eq_getElem h⟩
  simp only[zFg] at h1;have z0:((0:Nat):Int)=0:=rfl;rw[z0] at h1;clear z0;generalize L.isEmpty=ne at *;generalize xS L 0=r at *;obtain⟨T,j,e⟩:=r;dsimp only at *;refine zJ zVj rfl ?_
  by_cases hj:j<L.length
  ·obtain⟨t,ht⟩:=hle hj;have hT:=vE ht;have hd:decide ((j:Int)<((L.map Tok.c).length:Int))=true:=by(rw[decide_eq_true_eq,hlen];omega)
   obtain⟨tk,ts,⟨vk,vn,vs⟩,tl,tc⟩:=t;dsimp only at *
   by_cases he:e=0
   ·subst he;rw[if_pos rfl,if_pos hj];clear hle hlen ht hx;generalize L.map Tok.c=l at *;simp only[zAW] at h1 ⊢;generalize T.map Test.c=A at *;generalize T.isEmpty=te at *
    (have F_:=xaT;show W CC 0 54 (zA 38) _ ⟨[(0,_)],[]⟩ _)
    (repeat' first|refine gA ?_|refine gT ?_ ?_<;>intro hv<;>try cases hv;done|fail)
    all_goals refine aJ ?_<;>exact⟨⟨_,_⟩,⟨rfl,rfl⟩,trivial⟩
   rw[if_neg he];have he':(e==0)=false:=by simpa using he
   clear hle hlen ht hx;generalize L.map Tok.c=l at *;simp only[zAW] at h1 ⊢;generalize T.map Test.c=A at *;generalize T.isEmpty=te at *
   (have F_:=xaT;show W CC 0 54 (zA 38) _ ⟨[(0,_)],[]⟩ _)
   (refine gA ?_)
   all_goals refine aJ ?_<;>exact⟨⟨_,_⟩,⟨rfl,rfl⟩,trivial⟩
  have hd:decide ((j:Int)<((L.map Tok.c).length:Int))=false:=by(rw[decide_eq_false_iff_not,hlen];omega)
  by_cases he:e=0
  ·subst he;rw[if_pos rfl,if_neg hj];clear hle hlen hx;generalize L.map Tok.c=l at *;simp only[zAW] at h1 ⊢;generalize T.map Test.c=A at *;generalize T.isEmpty=te at *
   (have F_:=xaT;show W CC 0 54 (zA 38) _ ⟨[(0,_)],[]⟩ _)
   (refine gA ?_)
   all_goals refine aJ ?_<;>exact⟨⟨_,_⟩,⟨rfl,rfl⟩,trivial⟩
  rw[if_neg he];have he':(e==0)=false:=by simpa using he
  clear hle hlen hx;generalize L.map Tok.c=l at *;simp only[zAW] at h1 ⊢;generalize T.map Test.c=A at *;generalize T.isEmpty=te at *
  (have F_:=xaT;show W CC 0 54 (zA 38) _ ⟨[(0,_)],[]⟩ _)
  (refine gA ?_)
  all_goals refine aJ ?_<;>exact⟨⟨_,_⟩,⟨rfl,rfl⟩,trivial⟩
 rw[if_neg he,if_neg he];have he':(e0 != 0)=true:=by simpa using he
 refine zJ zVj rfl ?_;simp only[zAW,List.map_nil,List.isEmpty_nil] at hlex ⊢
 (have F_:=xaT;show W CC 0 54 (zA 38) _ ⟨[(0,_)],[]⟩ _)
 (refine gA ?_)
 all_goals refine aJ ?_<;>exact⟨⟨_,_⟩,⟨rfl,rfl⟩,trivial⟩
end Go.Ab
