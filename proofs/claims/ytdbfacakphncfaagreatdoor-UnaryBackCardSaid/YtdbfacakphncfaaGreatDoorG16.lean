/- Lemmas. -/
import Derived.Test.YtdbfacakphncfaaGreatDoorG13
import Derived.Test.YtdbfacakphncfaaGreatDoorG14
import Derived.Test.YtdbfacakphncfaaGreatDoorG15
set_option maxRecDepth 1000000
set_option maxHeartbeats 40000000
set_option linter.all false
namespace Go.Ab
open Go.Proofs
def zW7 {nl cl:Bool} {L:List Tok} (hL:L.length<4000000000) {i n:Nat} {T:List Test} (hi:i≤L.length) (hT:T.length<4294967295) (hA:anyX L i=false) (hB:notX L i=false) (hC:xQ L i=false) :
  ∃o h',Om CC 78 [.box 0 0] (ru (.sl nl cl (L.map Tok.c)) i n T)=some (o,h')∧RUo (.sl nl cl (L.map Tok.c)) T (match kL L i zBq with
   |some op=>cmpX L op (plW L i) (i+1) n T
   |none=>cmpX L 2 (plW L i) i n T) o h':=by
 obtain⟨op,j,hZ,hj,hr⟩:=yGC L i n hi T;have key:∃o h',Om CC 78 [.box 0 0] (ru (.sl nl cl (L.map Tok.c)) i n T)=some (o,h')∧RUo (.sl nl cl (L.map Tok.c)) T (cmpX L op (plW L i) j n T) o h':=by
  cases T with
  |nil =>
   by_cases he:(zH L j).2.2=0
   ·exact yAH hL hi hZ hj he hA hB hC
   exact zZp hL hi hZ hj he hA hB hC
  |cons t0 T0=>exact yAT hL hi hT hZ hj hA hB hC
 rw[← hr] at key;exact key
attribute [local irreducible] W RW RR
def OneH(nl cl:Bool)(L:List Tok)(f:Nat):Prop:=∀g,g<f→∀(i n:Nat) (T:List Test) (r:RU),UX L g .one i n T=some r→i≤L.length→n≤4→T.length+(L.length - i)≤4000000000 →
 ∃o h',Om CC 78 [.box 0 0] (ru (.sl nl cl (L.map Tok.c)) i n T)=some (o,h')∧RUo (.sl nl cl (L.map Tok.c)) T r o h'
def finR(p:Int×Int):RU→RU
 |.oks [k] i n T=>.ok k i n T
 |.oks ks i n T=>.ok T.length i n (T++[xK 9 [] [] false false ks p])
 |r=>r
structure TstI where
 g:Nat
 i:Nat
 t:Test
 r:List Test
 K:List Nat
def zLw(K:List Nat)(b:Nat):(xE (K++[b])).map intC=(xE K).map intC++[[.int .i64 (b:Int)]]:=by
 unfold xE;rw[List.map_append,List.map_append];rfl
def xaQ:=c5 zF zG zP zE (c5 zC zB zO zK (c5 yV xC zV zU (c5 zM yR vB zI (c5 xY zYm kJ zXX (c3 zXW zBT zBX)))))
def zNF {nl cl:Bool} {L:List Tok} (hL:L.length<4000000000) {i n f:Nat} {T:List Test} {r:RU} (hI:OneH nl cl L (f+1)) (h:UX L (f+1) .tests i n T=some r) (hi:i≤L.length) (hn:n≤4) (hB:T.length+(L.length - i)≤4000000000) :
  ∃o h',Om CC 37 [.box 0 0] (ru (.sl nl cl (L.map Tok.c)) i n T)=some (o,h')∧RUo (.sl nl cl (L.map Tok.c)) T r o h':=by
 rw[UX] at h;have hV:=kO nl cl L i n T;cases h1:UX L f .one i n T with
 |none=>rw[h1] at h;cases h
 |some rr =>
  have hk:=zZ _ _ _ _ _ _ h1 hi;obtain⟨o1,kb,ha,hr⟩:=hI f (Nat.lt_succ_self f) i n T rr h1 hi hn hB;rw[h1] at h;cases rr with
  |oks ks a b c=>exact absurd hr id
  |pan e i1 =>
   cases h;obtain⟨rfl,n1,T1,rfl,hg⟩:=hr;generalize Tree.sl nl cl (L.map Tok.c)=l at *;have hf:∀x:Heap,x=ru l i1 n1 T1→RUo l T (.pan e i1) (.pan (.t (ustop i1 e))) x:=fun x h=>⟨rfl,n1,T1,h,hg⟩
   simp only[ustop] at hf ha;generalize (plW L i).1=p1 at *;generalize (plW L i).2=p2 at *;clear hI h1 hk
   (have F_:=xaQ)
   rcases T with _|⟨t0,T0⟩<;>rcases T1 with _|⟨t1,R1⟩<;>first|exact absurd rfl (hg (List.cons_ne_nil _ _))|skip
   all_goals simp only[ru,ruT,ruR] at hV ha hf ⊢<;>(try generalize (t0::T0).map Test.c=E0 at *)<;>(try generalize (t1::R1).map Test.c=E1 at *)<;>refine xU zUv rfl ?_ (by kernel_rfl)<;>(simp only[zT,List.length_cons,List.length_nil,Nat.zero_add,Nat.reduceAdd];show W CC _ 41 (zA 37) _ _ _)<;>(refine gA ?_)<;>(refine aM ?_)<;>exact hf _ rfl
  |ok k i1 n1 T1 =>
   obtain⟨-,k1,k2,k3,k4,k5,k6⟩:=hk;subst k3;dsimp only at h;obtain⟨rl,kc,hm⟩:∃rl,UX L f (.list [k]) i1 n1 T1=some rl∧r=finR (plW L i) rl:=by
    cases h2:UX L f (.list [k]) i1 n1 T1 with
    |none=>rw[h2] at h;cases h
    |some rl =>
     rw[h2] at h;refine⟨rl,rfl,?_⟩;cases rl with
     |ok a b c d=>cases h;rfl
     |pan a b=>cases h;rfl
     |oks ks b c d =>
      match ks with
      |[]=>cases h;rfl
      |[x]=>cases h;rfl
      |x::y::z=>cases h;rfl
   clear h;rcases T1 with _|⟨t1,R1⟩
   ·exact absurd k5 (by simp)
   obtain⟨rfl,rfl⟩:=hr;generalize hp:plW L i=p at *;have hM:T≠[]→(t1::R1)≠[]:=fun _=>List.cons_ne_nil _ _
   generalize hl:Tree.sl nl cl (L.map Tok.c)=l at *
   (have F_:=xaQ)
   rcases T with _|⟨t0,T0⟩
   all_goals simp only[ru,ruT,ruR] at hV ha ⊢<;>(try generalize (t0::T0).map Test.c=E0 at hV ha ⊢)<;>generalize hD:(t1::R1).map Test.c=E1 at ha<;>refine xU zUv rfl ?_ (by kernel_rfl)<;>(simp only[zT,List.length_cons,List.length_nil,Nat.zero_add,Nat.reduceAdd];show W CC _ 41 (zA 37) _ _ _)<;>clear hp<;>(have hu:=Hid.mk hI)<;>(have ho:=Hid.mk hm)<;>(have hF:=Hid.mk hD)<;>(have hO:=Hid.mk kc)<;>clear hm hD kc hI h1<;>(refine gA ?_)<;>(have hD:=hF.h)<;>subst hD<;>refine yE (α:=TstI) (fun x=>⟨[(0,.box 0 0),(3,.box 2 0),(4,.hs 3 0)],[.box [.t l,.t (.int .i64 (x.i:Int)),.t (.int .i64 (n1:Int)),.hs 1 0],.arr 8 0 false ((x.t::x.r).map Test.c),.box [.t (.int .i64 p.1),.t (.int .i64 p.2)],.arr 1 0 false ((xE x.K).map intC)]⟩) (fun x=>x.g) (fun x=>UX L x.g (.list x.K) x.i n1 (x.t::x.r)=some rl∧x.K≠[]∧x.g≤f∧x.i≤L.length∧(x.t::x.r).length+(L.length - x.i)≤4000000000∧x.K.length+(L.length - x.i)≤4000000000) ⟨f,i1,t1,R1,[k]⟩ (by exact aTd) ⟨hO.h,List.cons_ne_nil _ _,Nat.le_refl _,k2,by dsimp only;omega,by(dsimp only[List.length_cons,List.length_nil];omega)⟩ ?_<;>clear ha hV hO hF
   ·rintro⟨g,i,t,R,K⟩ ⟨h,hK,hg,hi,hB,h5⟩;dsimp only at h hK hg hi hB h5 ⊢;rcases g with _|g
    ·simp [UX] at h
    rw[UX] at h;have u1:=uis0 nl cl L i n1 (t::R) [44] (by omega);have u2:=zPi nl cl L i n1 (t::R) (by omega);rw[hl] at u1 u2;simp only[ru,ruT,ruR] at u1 u2;have hG:((xE K).map intC).length=K.length:=by unfold xE;rw[List.length_map,List.length_map]
    have hz:lens 1 ((xE K).map intC)=true:=by unfold lens;rw[List.all_map];exact List.all_eq_true.2 fun x _=>rfl
    have hP:decide (((xE K).map intC).length+1<4294967296)=true:=by(rw[decide_eq_true_eq,hG];omega)
    by_cases hc:(isW L i [44]&&!qE L (i+1))=true
    ·rw[if_pos hc] at h;rw[Bool.and_eq_true] at hc;have hs:qE L (i+1)=false:=by(have:=hc.2;simpa using this)
     rw[hc.1] at u1;rw[hs] at u2;have hW:=zY hc.1;have w1:=wI64 i (by omega);clear hc hs;cases hh:UX L g .one (i+1) n1 (t::R) with
     |none=>rw[hh] at h;cases h
     |some rr =>
      have hk:=zZ _ _ _ _ _ _ hh (by omega);obtain⟨o2,kj,ha,hr⟩:=hu.h g (by omega) (i+1) n1 (t::R) rr hh (by omega) hn (by omega);rw[hl] at ha hr;rw[hh] at h;cases rr with
      |oks ks a b c=>exact absurd hr id
      |pan e i2 =>
       cases h;have hm:=ho.h;obtain⟨rfl,n2,T2,rfl,h6⟩:=hr;rcases T2 with _|⟨t2,R2⟩
       ·exact absurd rfl (h6 (List.cons_ne_nil _ _))
       have hf:∀x:Heap,x=ru l i2 n2 (t2::R2)→RUo l [] r (.pan (.t (ustop i2 e))) x:=fun x h=>by
        rw[hm];exact⟨rfl,n2,_,h,fun _=>List.cons_ne_nil _ _⟩
       simp only[ustop] at hf ha;simp only[ru,ruT,ruR] at hf ha;clear hm ho hu hM;generalize (t::R).map Test.c=E0 at *;generalize (t2::R2).map Test.c=E1 at *;generalize (xE K).map intC=EK at *
       (refine gA ?_)
       refine aM ?_;exact hf _ rfl
      |ok b i2 n2 T2 =>
       obtain⟨-,k1,k2,k3,k4,k5,k6⟩:=hk;subst k3;dsimp only at h;rcases T2 with _|⟨t2,R2⟩
       ·exact absurd k5 (by simp)
       obtain⟨rfl,rfl⟩:=hr;have h7:=Hid.mk (zLw K b);simp only[ru,ruT,ruR] at ha;generalize h8:(t::R).map Test.c=E0 at *;generalize hD:(t2::R2).map Test.c=E1 at ha;generalize hJ:(xE K).map intC=EK at *;have hF:=Hid.mk hD;have hH:UX L g (.list (K++[b])) i2 n2 (t2::R2)=some rl∧K++[b]≠[]∧g≤f∧i2≤L.length∧(t2::R2).length+(L.length - i2)≤4000000000∧(K++[b]).length+(L.length - i2)≤4000000000:=⟨h,by simp,by omega,k2,by omega,by(rw[List.length_append,List.length_cons,List.length_nil];omega)⟩
       clear h hD hJ h8 hG
       (refine gA ?_)
       have hD:=hF.h;subst hD;rw[← h7.h];exact zD ⟨g,i2,t2,R2,K++[b]⟩ (by dsimp only;omega) hH (by exact aTd)
    rw[if_neg hc] at h;cases h;have hm:=ho.h;have hQ:isW L i [44]=false∨(isW L i [44]=true∧qE L (i+1)=true):=by
     generalize isW L i [44]=qa at *;generalize qE L (i+1)=qb at *;cases qa<;>cases qb<;>simp_all
    clear hc;generalize isW L i [44]=qa at *;generalize qE L (i+1)=qb at *;rcases K with _|⟨k0,Kr⟩
    ·exact absurd rfl hK
    rcases Kr with _|⟨kk,Kr⟩
    ·have hf:∀x:Heap,x=ru l i n1 (t::R)→RUo l [] r (.val (.t (.int .i64 (k0:Nat)))) x:=fun x h=>by
      rw[hm];exact⟨rfl,h⟩
     have hE:(xE [k0]).map intC=[[.int .i64 (k0:Int)]]:=rfl;rw[hE];simp only[ru,ruT,ruR] at hf;clear hm ho hu hM hG hz hP hE;generalize (t::R).map Test.c=E0 at *;have e1:(((1:Nat):Int)==1)=true:=rfl;have le00:((0:Int)≤0)=True:=by simp
     have lt01:((0:Int)<((1:Nat):Int))=True:=by simp
     have tn0:Int.toNat 0=0:=rfl;rcases hQ with rfl|⟨rfl,rfl⟩
     all_goals (refine gA ?_)<;>(refine aJ ?_)<;>exact hf _ rfl
    have hq:=zBp l i n1 (t::R) (xK 9 [] [] false false (k0::kk::Kr) p) (by omega);rw[zCJ] at hq;simp only[wJ,List.isEmpty_nil,List.isEmpty_cons,List.map_nil] at hq;have hf:∀x:Heap,x=ru l i n1 (t::R++[xK 9 [] [] false false (k0::kk::Kr) p])→RUo l [] r (.val (.t (.int .i64 ((t::R).length:Nat)))) x:=fun x h=>by
     rw[hm];exact⟨rfl,h⟩
    generalize xK 9 [] [] false false (k0::kk::Kr) p=N at *;generalize (t::R).length=lenT at *;rw[List.cons_append] at hq hf;simp only[ru,ruT,ruR] at hf hq;have e1:(((k0::kk::Kr).length:Int)==1)=false:=by(simp only[List.length_cons,beq_eq_false_iff_ne,ne_eq];omega)
    rw[← hG] at e1;clear hm ho hu hM hG hz hP;generalize (t::R).map Test.c=E0 at *;generalize (t::(R++[N])).map Test.c=E1 at *;generalize (xE (k0::kk::Kr)).map intC=EK at *;rcases hQ with rfl|⟨rfl,rfl⟩
    all_goals (refine gA ?_)<;>(refine aJ ?_)<;>exact hf _ rfl
   rintro⟨g,i,t,R,K⟩ ⟨h,hK,hg,hi,hB,h5⟩;dsimp only at h hK hg hi hB h5 ⊢;rcases g with _|g
   ·simp [UX] at h
   rw[UX] at h;have u1:=uis0 nl cl L i n1 (t::R) [44] (by omega);have u2:=zPi nl cl L i n1 (t::R) (by omega);rw[hl] at u1 u2;simp only[ru,ruT,ruR] at u1 u2;have hG:((xE K).map intC).length=K.length:=by unfold xE;rw[List.length_map,List.length_map]
   have hz:lens 1 ((xE K).map intC)=true:=by unfold lens;rw[List.all_map];exact List.all_eq_true.2 fun x _=>rfl
   have hP:decide (((xE K).map intC).length+1<4294967296)=true:=by(rw[decide_eq_true_eq,hG];omega)
   by_cases hc:(isW L i [44]&&!qE L (i+1))=true
   ·rw[if_pos hc] at h;rw[Bool.and_eq_true] at hc;have hs:qE L (i+1)=false:=by(have:=hc.2;simpa using this)
    rw[hc.1] at u1;rw[hs] at u2;have hW:=zY hc.1;have w1:=wI64 i (by omega);clear hc hs;cases hh:UX L g .one (i+1) n1 (t::R) with
    |none=>rw[hh] at h;cases h
    |some rr =>
     have hk:=zZ _ _ _ _ _ _ hh (by omega);obtain⟨o2,kj,ha,hr⟩:=hu.h g (by omega) (i+1) n1 (t::R) rr hh (by omega) hn (by omega);rw[hl] at ha hr;rw[hh] at h;cases rr with
     |oks ks a b c=>exact absurd hr id
     |pan e i2 =>
      cases h;have hm:=ho.h;obtain⟨rfl,n2,T2,rfl,h6⟩:=hr;rcases T2 with _|⟨t2,R2⟩
      ·exact absurd rfl (h6 (List.cons_ne_nil _ _))
      have hf:∀x:Heap,x=ru l i2 n2 (t2::R2)→RUo l (t0::T0) r (.pan (.t (ustop i2 e))) x:=fun x h=>by
       rw[hm];exact⟨rfl,n2,_,h,fun _=>List.cons_ne_nil _ _⟩
      simp only[ustop] at hf ha;simp only[ru,ruT,ruR] at hf ha;clear hm ho hu hM;generalize (t::R).map Test.c=E0 at *;generalize (t2::R2).map Test.c=E1 at *;generalize (xE K).map intC=EK at *
      (refine gA ?_)
      refine aM ?_;exact hf _ rfl
     |ok b i2 n2 T2 =>
      obtain⟨-,k1,k2,k3,k4,k5,k6⟩:=hk;subst k3;dsimp only at h;rcases T2 with _|⟨t2,R2⟩
      ·exact absurd k5 (by simp)
      obtain⟨rfl,rfl⟩:=hr;have h7:=Hid.mk (zLw K b);simp only[ru,ruT,ruR] at ha;generalize h8:(t::R).map Test.c=E0 at *;generalize hD:(t2::R2).map Test.c=E1 at ha;generalize hJ:(xE K).map intC=EK at *;have hF:=Hid.mk hD;have hH:UX L g (.list (K++[b])) i2 n2 (t2::R2)=some rl∧K++[b]≠[]∧g≤f∧i2≤L.length∧(t2::R2).length+(L.length - i2)≤4000000000∧(K++[b]).length+(L.length - i2)≤4000000000:=⟨h,by simp,by omega,k2,by omega,by(rw[List.length_append,List.length_cons,List.length_nil];omega)⟩
      clear h hD hJ h8 hG
      (refine gA ?_)
      have hD:=hF.h;subst hD;rw[← h7.h];exact zD ⟨g,i2,t2,R2,K++[b]⟩ (by dsimp only;omega) hH (by exact aTd)
   rw[if_neg hc] at h;cases h;have hm:=ho.h;have hQ:isW L i [44]=false∨(isW L i [44]=true∧qE L (i+1)=true):=by
    generalize isW L i [44]=qa at *;generalize qE L (i+1)=qb at *;cases qa<;>cases qb<;>simp_all
   clear hc;generalize isW L i [44]=qa at *;generalize qE L (i+1)=qb at *;rcases K with _|⟨k0,Kr⟩
   ·exact absurd rfl hK
   rcases Kr with _|⟨kk,Kr⟩
   ·have hf:∀x:Heap,x=ru l i n1 (t::R)→RUo l (t0::T0) r (.val (.t (.int .i64 (k0:Nat)))) x:=fun x h=>by
     rw[hm];exact⟨rfl,h⟩
    have hE:(xE [k0]).map intC=[[.int .i64 (k0:Int)]]:=rfl;rw[hE];simp only[ru,ruT,ruR] at hf;clear hm ho hu hM hG hz hP hE;generalize (t::R).map Test.c=E0 at *;have e1:(((1:Nat):Int)==1)=true:=rfl;have le00:((0:Int)≤0)=True:=by simp
    have lt01:((0:Int)<((1:Nat):Int))=True:=by simp
    have tn0:Int.toNat 0=0:=rfl;rcases hQ with rfl|⟨rfl,rfl⟩
    all_goals (refine gA ?_)<;>(refine aJ ?_)<;>exact hf _ rfl
   have hq:=zBp l i n1 (t::R) (xK 9 [] [] false false (k0::kk::Kr) p) (by omega);rw[zCJ] at hq;simp only[wJ,List.isEmpty_nil,List.isEmpty_cons,List.map_nil] at hq;have hf:∀x:Heap,x=ru l i n1 (t::R++[xK 9 [] [] false false (k0::kk::Kr) p])→RUo l (t0::T0) r (.val (.t (.int .i64 ((t::R).length:Nat)))) x:=fun x h=>by
    rw[hm];exact⟨rfl,h⟩
   generalize xK 9 [] [] false false (k0::kk::Kr) p=N at *;generalize (t::R).length=lenT at *;rw[List.cons_append] at hq hf;simp only[ru,ruT,ruR] at hf hq;have e1:(((k0::kk::Kr).length:Int)==1)=false:=by(simp only[List.length_cons,beq_eq_false_iff_ne,ne_eq];omega)
   rw[← hG] at e1;clear hm ho hu hM hG hz hP;generalize (t::R).map Test.c=E0 at *;generalize (t::(R++[N])).map Test.c=E1 at *;generalize (xE (k0::kk::Kr)).map intC=EK at *;rcases hQ with rfl|⟨rfl,rfl⟩
   all_goals (refine gA ?_)<;>(refine aJ ?_)<;>exact hf _ rfl
def yB9{nl cl:Bool}{L:List Tok}(hL:L.length<4000000000):∀f,OneH nl cl L f:=by
 intro f
 induction f with
 |zero=>intro g hg;omega
 |succ f ih =>
  intro g hg i n T r h hi hn hB;rcases Nat.lt_or_ge g f with hW|kt
  ·exact ih g hW i n T r h hi hn hB
  obtain rfl:g=f:=by omega
  rcases g with _|g
  ·simp [UX] at h
  rw[UX] at h;cases hA:anyX L i with
  |true =>
   rw[hA,if_pos rfl] at h;cases h;exact zWu hL hi (by omega) hA
  |false =>
   rw[hA,if_neg (by simp)] at h;cases hN:notX L i with
   |true =>
    rw[hN,if_pos rfl] at h
    by_cases h4:n=4
    ·rw[if_pos h4] at h;cases h;subst h4;exact zVt hL hi hN
    rw[if_neg h4] at h;have hW:i+1<L.length:=by
     unfold notX at hN;rw[Bool.and_eq_true] at hN;exact zY hN.2
    cases h1:UX L g .tests (i+2) (n+1) T with
    |none=>rw[h1] at h;cases h
    |some rr =>
     rcases g with _|g
     ·simp [UX] at h1
     obtain⟨o1,kb,hc,hr⟩:=zNF (f:=g) hL (fun g' ku=>ih g' (by omega)) h1 (by omega) (by omega) (by omega);have hk:=zZ _ _ _ _ _ _ h1 (by omega);rw[h1] at h;cases rr with
     |oks ks a b c=>exact absurd hr id
     |pan e i1=>cases h;exact zTv hL hi (by omega) hN hc hr
     |ok k i1 n1 T1 =>
      obtain⟨-,k1,k2,k3,k4,k5,k6⟩:=hk;subst k3;dsimp only at h;have kd:T1≠[]:=fun hh=>by rw[hh] at k5;simp at k5
      cases hw:isW L i1 [41] with
      |true =>
       rw[hw,if_pos rfl,Nat.add_sub_cancel] at h;cases h;exact zWr hL hi (by omega) hN kd (by omega) hc hr hw
      |false =>
       rw[hw,if_neg (by simp)] at h;cases h;exact zRA hL hi (by omega) hN kd k2 hc hr hw
   |false =>
    rw[hN,if_neg (by simp)] at h;cases hR:xQ L i with
    |true =>
     rw[hR,if_pos rfl] at h;cases h;exact zXi hL hi (by omega) hR
    |false =>
     rw[hR,if_neg (by simp)] at h;have hc:=zW7 (nl:=nl) (cl:=cl) hL (n:=n) hi (T:=T) (by omega) hA hN hR;cases hs:kL L i zBq with
     |some op=>rw[hs] at h hc;cases h;exact hc
     |none=>rw[hs] at h hc;cases h;exact hc
def xaR:=c5 zF zG zP zE (c5 zC zOp zB zO (c5 zK zR yV zM (c3 yR zI (c2 zPr zXO))))
def zJP(ids:Nat×Nat×Nat)(h:Heap)(hc:canon h h.length []=some ([],h)) :
  Om CC (xG+76) (.t .nilptr::[.box ids.1 0,.box ids.2.1 0,.box ids.2.2 0]) h=some (.val (.t .nilptr),h):=by
 obtain⟨u',h',h1,h2,h3⟩:=zHr (C:=CC) (g:=76) (fn:=Tryz.f76) (u:=none) (args:=[.box ids.1 0,.box ids.2.1 0,.box ids.2.2 0]) (h:=h)
  (R:=fun u h'=>u=none∧h'=h) (by kernel_rfl) (by kernel_rfl) zVT rfl (by kernel_rfl) rfl (by
  (have F_:=xaR)
  have u20:und Tryz.prog 20=some (.interface #[]):=by kernel_rfl
  show WS CC _ 16 (zA 76) _ _ _ _
  refine zLg rfl (zMw ?_)
  show W CC _ _ _ _ _ _
  simp only[recovered,zT,Nat.zero_add,Nat.reduceAdd]
  (refine gA ?_)
  exact⟨.inl rfl,by kernel_rfl,⟨.tup [],by kernel_rfl⟩,h,hc,rfl,rfl⟩)
 subst h2 h3;exact h1
def zSx (i e n5 n6:Int) :
  Om CC (xG+76) (.agg [.t (.ifc 133 (.agg [.int .i64 i,.int .i64 e])),.t (.bool false)]::[.box 0 0,.box 1 0,.box 2 0]) [.box [.t (.sl true true [])],.box [.t (.int .i64 n5)],.box [.t (.int .i64 n6)]]
   = some (.val (.t .nilptr),[.box [.t (.sl true true [])],.box [.t (.int .i64 i)],.box [.t (.int .i64 e)]]):=by
 obtain⟨u',h',h1,h2,h3⟩:=zHr (C:=CC) (g:=76) (fn:=Tryz.f76) (u:=some (.ifc 133 (.agg [.int .i64 i,.int .i64 e]),false)) (args:=[.box 0 0,.box 1 0,.box 2 0]) (h:=[.box [.t (.sl true true [])],.box [.t (.int .i64 n5)],.box [.t (.int .i64 n6)]])
  (R:=fun u h'=>u=none∧h'=[.box [.t (.sl true true [])],.box [.t (.int .i64 i)],.box [.t (.int .i64 e)]]) (by kernel_rfl) (by kernel_rfl) zVT rfl (by kernel_rfl) rfl (by
  (have F_:=xaR)
  have u20:und Tryz.prog 20=some (.interface #[]):=by kernel_rfl
  obtain⟨fs,km⟩:=zLu
  show WS CC _ 16 (zA 76) _ _ _ _
  refine zLg rfl (zMw ?_)
  show W CC _ _ _ _ _ _
  simp only[recovered,zT,Nat.zero_add,Nat.reduceAdd,List.length_cons,List.length_nil]
  (refine gA ?_)
  exact⟨.inl rfl,by kernel_rfl,⟨.tup [],by kernel_rfl⟩,_,by kernel_rfl,rfl,rfl⟩)
 subst h2 h3;exact h1
def wL(T:List Test):Tree:=.sl T.isEmpty T.isEmpty (T.map Test.c)
def resU(i:Nat):RU→List Test×Nat×Int
 |.ok _ i' _ T=>if 30<T.length then ([],i,7) else (T,i',0)
 |.pan e i'=>([],i',e)
 |_=>([],0,4)
def zFk(x:List Test×Nat×Int):Out×Heap:=(.val (.tup [.t (wL x.1),.t (.int .i64 (x.2.1:Nat)),.t (.int .i64 x.2.2)]),[])
def zRI (nl cl:Bool) (L:List Tok) (hL:L.length<4000000000) (i:Nat) (hi:i≤L.length) :
  Om CC 36 [.t (.sl nl cl (L.map Tok.c)),.t (.int .i64 (i:Int)),.t (.fn 37)] []=some (zFk (xB L i)):=by
 obtain⟨r,hr⟩:=zBy (l:=L) (4 * (L.length - i)+2+1) .tests i 0 [] (by simp [UC.need]) hi;have hk:=zZ _ _ _ _ _ _ hr hi;obtain⟨o1,kb,hc,h9⟩:=zNF (nl:=nl) (cl:=cl) hL (yB9 hL _) hr hi (by omega) (by simp;omega);have hp:xB L i=resU i r:=by
  have ko:UXF L i=some r:=hr;unfold xB;rw[ko];cases r<;>rfl
 rw[hp];have d0:decide ((i:Int)<0)=false:=by simp
 have d1:decide ((i:Int) > ((L.map Tok.c).length:Int))=false:=by simp;omega
 clear hr hp;generalize L.map Tok.c=l at *
 suffices hh:∃o h',Om CC 36 [.t (.sl nl cl l),.t (.int .i64 (i:Int)),.t (.fn 37)] []=some (o,h')∧(o,h')=zFk (resU i r) by
  obtain⟨o,h',h1,h2⟩:=hh;rw[h1,h2]
 refine zHl yCI rfl ?_ (by kernel_rfl)
 (have F_:=c5 zF zG zP zE (c5 zC zB zO zK (c5 zR yV zV zU (c5 zM yR zXY vB (c3 zI xY (c2 yIX zCr))))))
 have z0:((0:Nat):Int)=0:=rfl;have ke:=zX 37;have ke:=fun x=>ke x (by decide)
 cases r with
 |oks a b c d=>exact absurd h9 id
 |pan e i1 =>
  obtain⟨rfl,n1,T1,rfl,-⟩:=h9;have hX:=zSx i1 e 0 0;rcases T1 with _|⟨t1,R1⟩
  ·simp only[ru,ruT,ruR,z0,ustop] at hc;clear hk z0
   (simp only[zT,List.length_cons,List.length_nil,Nat.zero_add,Nat.reduceAdd];show W CC _ 41 (zA 36) _ _ _)
   (refine gA ?_)
   refine zFW ?_;refine zGe ?_;refine zEm ?_
   rfl
  simp only[ru,ruT,ruR,z0,ustop] at hc;generalize (t1::R1).map Test.c=E1 at *;clear hk z0
  (simp only[zT,List.length_cons,List.length_nil,Nat.zero_add,Nat.reduceAdd];show W CC _ 41 (zA 36) _ _ _)
  (refine gA ?_)
  refine zFW ?_;refine zGe ?_;refine zEm ?_
  rfl
 |ok k i1 n1 T1 =>
  obtain⟨-,k1,k2,k3,k4,k5,k6⟩:=hk;obtain⟨rfl,rfl⟩:=h9;rcases T1 with _|⟨t1,R1⟩
  ·exact absurd k5 (by simp)
  simp only[ru,ruT,ruR,z0] at hc;clear z0;have e1:resU i (.ok k i1 n1 (t1::R1))=if 30<(t1::R1).length then ([],i,7) else (t1::R1,i1,0):=rfl
  rw[e1];clear e1 k1 k2 k3 k4 k5 k6;have hl:(t1::R1).length=((t1::R1).map Test.c).length:=by rw[List.length_map]
  by_cases hY:30<(t1::R1).length
  ·rw[if_pos hY];rw[hl] at hY;clear hl;generalize (t1::R1).map Test.c=E1 at *;have ka:decide ((E1.length:Int) > 30)=true:=by(rw[decide_eq_true_eq];omega)
   have hX:=zJP (0,1,2) [.box [.t (.sl true true [])],.box [.t (.int .i64 (i:Int))],.box [.t (.int .i64 7)]] (by kernel_rfl);dsimp only at hX
   (simp only[zT,List.length_cons,List.length_nil,Nat.zero_add,Nat.reduceAdd];show W CC _ 41 (zA 36) _ _ _)
   (refine gA ?_)
   first|refine zFT ?_|refine zDt ?_
   refine zGe ?_;refine zEm ?_
   rfl
  rw[if_neg hY];rw[hl] at hY;have kg:zFk (t1::R1,i1,0)=(.val (.tup [.t (.sl false false ((t1::R1).map Test.c)),.t (.int .i64 (i1:Int)),.t (.int .i64 0)]),[]):=rfl;rw[kg];clear hl kg;generalize (t1::R1).map Test.c=E1 at *;have ka:decide ((E1.length:Int) > 30)=false:=by(rw[decide_eq_false_iff_not];omega)
  have hX:=zJP (0,2,3) [.box [.hs 1 0],.arr 8 0 false E1,.box [.t (.int .i64 (i1:Int))],.box [.t (.int .i64 0)]] (by kernel_rfl);dsimp only at hX
  (simp only[zT,List.length_cons,List.length_nil,Nat.zero_add,Nat.reduceAdd];show W CC _ 41 (zA 36) _ _ _)
  (refine gA ?_)
  first|refine zFT ?_|refine zDt ?_
  refine zGe ?_;refine zEm ?_
  rfl
def zUV (nl cl:Bool) (L:List Tok) (hL:L.length<4000000000) (i:Nat) (hi:i≤L.length) :
  Om CC 21 [.t (.sl nl cl (L.map Tok.c)),.t (.int .i64 (i:Int))] []=some (zFk (xB L i)):=by
 have h:=zRI nl cl L hL i hi;simp only[zFk,wL] at h ⊢;generalize xB L i=r at *;obtain⟨T,j,e⟩:=r;dsimp only at *;generalize T.map Test.c=A at *;generalize T.isEmpty=b at *;refine zL yCL rfl ?_
 (have F_:=c5 zF zG zE zC (c5 zB zK zV zU (c3 zXY yIS yHA));show W CC 0 13 (zA 21) _ ⟨[(0,_),(1,_)],[]⟩ _)
 (refine gA ?_)
 all_goals refine aK ?_ ?_<;>(first|rfl)
def xaS:=c5 zF zG zE zC (c5 zB zK zV zU zXM)
def zNI (nl cl:Bool) (L:List Tok) (hL:L.length<4000000000) :
  ∃p:Int×Int,Om CC 22 [.t (.sl nl cl (L.map Tok.c))] []=some (.val (.t (.agg [.int .i64 p.1,.int .i64 p.2])),[])∧True:=by
 refine zJ yDU rfl ?_;have hy:(L.map Tok.c).length=L.length:=List.length_map ..
 by_cases h0:L.length=0
 ·have hd:(((L.map Tok.c).length:Int)==0)=true:=by rw[hy,h0];rfl
  generalize L.map Tok.c=l at *
  (have F_:=xaS;show W CC 0 41 (zA 22) _ ⟨[(0,_)],[]⟩ _)
  (repeat' first|refine gA ?_|refine gT ?_ ?_<;>intro hv<;>try cases hv;done|fail)
  all_goals refine aJ ?_<;>exact⟨⟨_,_⟩,⟨rfl,rfl⟩,trivial⟩
 have hd:(((L.map Tok.c).length:Int)==0)=false:=by(rw[hy,beq_eq_false_iff_ne];omega)
 obtain⟨t,ht⟩:∃t,L[L.length - 1]?=some t:=⟨_,List.getElem?_eq_getElem (by omega)⟩;have hT:=vF ht;have hw:IntKind.i64.wrap (((L.map Tok.c).length:Int) - 1)=((L.length - 1:Nat):Int):=by rw[hy,wrap64]<;>omega
 clear ht;generalize L.map Tok.c=l at *;generalize L.length - 1=j at *;obtain⟨tk,ts,⟨vk,vn,vs⟩,tl,tc⟩:=t;dsimp only at *;clear hy
 (have F_:=xaS;show W CC 0 41 (zA 22) _ ⟨[(0,_)],[]⟩ _)
 (repeat' first|refine gA ?_|refine gT ?_ ?_<;>intro hv|fail)
 all_goals refine aJ ?_<;>exact⟨⟨_,_⟩,⟨rfl,rfl⟩,trivial⟩
def zJj(L:List Tok):List Test×Int :=
 if (xB L 0).2.2=0 then (if (xB L 0).2.1<L.length then ([],4) else ((xB L 0).1,0)) else ([],(xB L 0).2.2)
def xaT:=c5 zF zG zE zC (c5 zB zK zR zV (c5 zU zMb zEg zMe zD8))
def zXu {vp:List Nat→Val×Int} (kp:VPH vp) (s:List Nat) (hb:∀b ∈ s,b<256) (hs:s.length≤65536) (kr:∀L:List Tok,lexB vp s=some (L.map Tok.b)→L.length<4000000000) :
  ∃L e0,zOr vp s L e0∧∃p:Int×Int,Om CC 10 [.t (.str s)] []=some (.val (.tup [.t (wL (if e0=0 then (zJj L).1 else [])),.t (.agg [.int .i64 p.1,.int .i64 p.2]),.t (.int .i64 (if e0=0 then (zJj L).2 else e0))]),[])∧True:=by
 obtain⟨o,h',hS,rfl,L,line,col,e0,rfl,hL⟩:=zTj kp s hb hs;refine⟨L,e0,hL,?_⟩;simp only[zOD] at hS;rcases hL with ⟨rfl,hx⟩|⟨he,rfl,hx⟩
 ·have kh:=kr L hx;rw[if_pos rfl,if_pos rfl];have h1:=zUV L.isEmpty L.isEmpty L kh 0 (Nat.zero_le _);obtain⟨bp,h2,-⟩:=zNI L.isEmpty L.isEmpty L kh;have hy:(L.map Tok.c).length=L.length:=List.length_map ..;unfold zJj;have hU:(xB L 0).2.1<L.length→∃t,L[(xB L 0).2.1]?=some t:=fun h=>⟨_,List.getElem?_eq_getElem h⟩
  simp only[zFk] at h1;have z0:((0:Nat):Int)=0:=rfl;rw[z0] at h1;clear z0;generalize L.isEmpty=ne at *;generalize xB L 0=r at *;obtain⟨T,j,e⟩:=r;dsimp only at *;refine zJ zUN rfl ?_
  by_cases hj:j<L.length
  ·obtain⟨t,ht⟩:=hU hj;have hT:=vF ht;have hd:decide ((j:Int)<((L.map Tok.c).length:Int))=true:=by(rw[decide_eq_true_eq,hy];omega)
   obtain⟨tk,ts,⟨vk,vn,vs⟩,tl,tc⟩:=t;dsimp only at *
   by_cases he:e=0
   ·subst he;rw[if_pos rfl,if_pos hj];clear hU hy ht hx;generalize L.map Tok.c=l at *;simp only[wL] at h1 ⊢;generalize T.map Test.c=A at *;generalize T.isEmpty=te at *
    (have F_:=xaT;show W CC 0 54 (zA 10) _ ⟨[(0,_)],[]⟩ _)
    (repeat' first|refine gA ?_|refine gT ?_ ?_<;>intro hv<;>try cases hv;done|fail)
    all_goals refine aJ ?_<;>exact⟨⟨_,_⟩,⟨rfl,rfl⟩,trivial⟩
   rw[if_neg he];have ki:(e==0)=false:=by simpa using he
   clear hU hy ht hx;generalize L.map Tok.c=l at *;simp only[wL] at h1 ⊢;generalize T.map Test.c=A at *;generalize T.isEmpty=te at *
   (have F_:=xaT;show W CC 0 54 (zA 10) _ ⟨[(0,_)],[]⟩ _)
   (refine gA ?_)
   all_goals refine aJ ?_<;>exact⟨⟨_,_⟩,⟨rfl,rfl⟩,trivial⟩
  have hd:decide ((j:Int)<((L.map Tok.c).length:Int))=false:=by(rw[decide_eq_false_iff_not,hy];omega)
  by_cases he:e=0
  ·subst he;rw[if_pos rfl,if_neg hj];clear hU hy hx;generalize L.map Tok.c=l at *;simp only[wL] at h1 ⊢;generalize T.map Test.c=A at *;generalize T.isEmpty=te at *
   (have F_:=xaT;show W CC 0 54 (zA 10) _ ⟨[(0,_)],[]⟩ _)
   (refine gA ?_)
   all_goals refine aJ ?_<;>exact⟨⟨_,_⟩,⟨rfl,rfl⟩,trivial⟩
  rw[if_neg he];have ki:(e==0)=false:=by simpa using he
  clear hU hy hx;generalize L.map Tok.c=l at *;simp only[wL] at h1 ⊢;generalize T.map Test.c=A at *;generalize T.isEmpty=te at *
  (have F_:=xaT;show W CC 0 54 (zA 10) _ ⟨[(0,_)],[]⟩ _)
  (refine gA ?_)
  all_goals refine aJ ?_<;>exact⟨⟨_,_⟩,⟨rfl,rfl⟩,trivial⟩
 rw[if_neg he,if_neg he];have ki:(e0 != 0)=true:=by simpa using he
 refine zJ zUN rfl ?_;simp only[wL,List.map_nil,List.isEmpty_nil] at hS ⊢
 (have F_:=xaT;show W CC 0 54 (zA 10) _ ⟨[(0,_)],[]⟩ _)
 (refine gA ?_)
 all_goals refine aJ ?_<;>exact⟨⟨_,_⟩,⟨rfl,rfl⟩,trivial⟩
end Go.Ab
