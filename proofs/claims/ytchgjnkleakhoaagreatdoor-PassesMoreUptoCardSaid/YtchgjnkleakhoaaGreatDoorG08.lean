/- Lemmas. -/
import Derived.Test.YtchgjnkleakhoaaGreatDoorG07
set_option maxRecDepth 1000000
set_option maxHeartbeats 40000000
set_option linter.all false
namespace Go.Ab
open Go.Proofs
attribute [local irreducible] W RW RR
def LevH(nl cl:Bool)(L:List Tok)(m f:Nat):Prop:=∀g,g<f→∀(i d:Nat) (T:List Node) (r:RX),PX L g (.lev m) i d T=some r→i≤L.length→d≤12→T.length+(L.length - i)≤4000000000 →
 Om CC 198 [.box 0 0,.t (.int .i64 (m:Int))] (rd (.sl nl cl (L.map Tok.c)) i d T)=some (r.o (.sl nl cl (L.map Tok.c)))
structure RowI where
 g:Nat
 a:Nat
 i:Nat
 t:Node
 r:List Node
def RowI.T(x:RowI):List Node:=x.t::x.r
def xaH:=c5 zF zG zQ zE (c5 zD zI zB zO (c5 zL zN zX zS (c5 yJ yK zDn zDH (c5 zUV qT zIb zUB zAb))))
def zZl {nl cl:Bool} {L:List Tok} {i d:Nat} {T:List Node} {r:RX} {n f:Nat} (hn:n=0∨n=1∨n=3∨n=4∨n=5) (hL:L.length<9223372036854775807) (hih:LevH nl cl L (n+1) (f+1))
  (h:PX L (f+1) (.lev n) i d T=some r) (hi:i≤L.length) (hd:d≤12) (hB:T.length+(L.length - i)≤4000000000) :
  Om CC 275 [.box 0 0,.t (.int .i64 (n:Int)),.t (.bool (zFR n)),.t (.sl false false ((opsX n).map opsC))] (rd (.sl nl cl (L.map Tok.c)) i d T)=some (r.o (.sl nl cl (L.map Tok.c))):=by
 have hgr:=zA6 _ _ _ _ _ _ h;rw[PX,if_neg (by omega),if_pos (by omega)] at h;have h2:=wI64 n (by omega);have hol:(opsX n).length<9223372036854775807:=by rcases hn with rfl|rfl|rfl|rfl|rfl<;>decide
 cases h1:PX L f (.lev (n+1)) i d T with
 |none=>rw[h1] at h;cases h
 |some r1 =>
  have hk:=xO _ _ _ _ _ _ h1 hi hd trivial;have hg1:=zA6 _ _ _ _ _ _ h1;have hcall:=hih f (Nat.lt_succ_self f) i d T r1 h1 hi hd hB;rw[h1] at h;cases r1 with
  |pan e i1 d1 T1 =>
   cases h;have hg:=zBp hgr;simp only[RX.T] at hg;clear hgr hg1 hih hk;generalize Tree.sl nl cl (L.map Tok.c)=l at *;generalize (opsX n).map opsC=E9
   (have F_:=xaH)
   rcases T with _|⟨t0,T0⟩<;>rcases T1 with _|⟨t1,T1⟩<;>first|exact absurd rfl (hg (List.cons_ne_nil _ _))|skip
   all_goals simp only[RX.o,rd,rdT,rdR,yZ] at hcall ⊢<;>(try generalize (t0::T0).map Node.c=E0 at *)<;>(try generalize (t1::T1).map Node.c=E1 at *)<;>refine wA zQP rfl ?_<;>(simp only[zV,List.length_cons,List.length_nil,Nat.zero_add,Nat.reduceAdd];show W CC _ 47 (zA 275) _ _ _)<;>(refine gA ?_)<;>(first|(refine aJ ?_;rfl)|(refine aM ?_;rfl))
  |ok a i1 d1 T1 =>
   dsimp only at h;obtain⟨k1,k2,k3,k4,k5⟩:=hk;simp only[Cmd.dt] at k3;subst k3;rcases T1 with _|⟨t1,R1⟩
   ·exact absurd k5 (by simp)
   -- the loop
   have key:∀l,l=Tree.sl nl cl (L.map Tok.c)→∀(Q:Ex→St→Prop) (m:Nat) (b:Code),True:=fun _ _ _ _ _=>trivial
   clear hgr hg1 key;have hpl:=fun i T=>zFL nl cl L i d1 T
   have hin:=fun i T=>zTQ nl cl L i d1 T false false (opsX n) hol
   generalize hl:Tree.sl nl cl (L.map Tok.c)=l at *;generalize (opsX n).map opsC=E9 at *;have hfin:∀(st:St) (Q:Ex→St→Prop),True:=fun _ _=>trivial
   clear hfin
   (have F_:=xaH)
   rcases T with _|⟨t0,T0⟩
   all_goals simp only[RX.o,rd,rdT,rdR,yZ] at hcall<;>simp only[rd,rdT,rdR]<;>(try generalize (t0::T0).map Node.c=E0 at *)<;>refine wA zQP rfl ?_<;>(simp only[zV,List.length_cons,List.length_nil,Nat.zero_add,Nat.reduceAdd];show W CC _ 47 (zA 275) _ _ _)<;>(refine gA ?_)<;>refine zY (α:=RowI) (fun x=>⟨[(0,.box 0 0),(1,.t (.int .i64 (n:Int))),(2,.t (.bool (zFR n))),(3,.t (.sl false false E9)),(9,.t (.int .i64 (x.a:Int)))],[.box [.t l,.t (.int .i64 (x.i:Int)),.t (.int .i64 (d1:Int)),.hs 1 0],.arr 8 0 false (x.T.map Node.c)]⟩) (fun x=>x.g) (fun x=>PX L x.g (.row n x.a) x.i d1 x.T=some r∧x.g≤f∧x.i≤L.length∧x.a<x.T.length∧x.T.length+(L.length - x.i)≤4000000000) ⟨f,a,i1,t1,R1⟩ (by exact aTd) ⟨h,Nat.le_refl _,k2,k5,by(simp only[RowI.T];omega)⟩ ?_<;>clear hcall h h1<;>rintro⟨g,a,i,t,R⟩ ⟨h,hg,hi,ha,hB⟩<;>simp only[RowI.T] at h hg hi ha hB ⊢<;>rcases g with _|g<;>(first|(simp [PX] at h;done)|skip)<;>rw[PX] at h<;>(have hp:=hpl i (t::R))<;>(have hi2:=hin i (t::R))<;>clear hpl hin<;>simp only[rd,rdT,rdR] at hp hi2<;>(have hlt:=@zBB L i (opsX n))<;>generalize hlenT:(t::R).length=lenT at *<;>generalize yG L i (opsX n)=o at *<;>(by_cases ho:o=0)<;>(first|rw[if_pos ho] at h|rw[if_neg ho] at h)
   ·cases h;subst ho;generalize hE0:(t::R).map Node.c=E0 at *;have e0:((0:Int)==0)=true:=rfl
    (refine gA ?_)
    refine aJ ?_;subst hE0
    rfl
   ·have hlt:=hlt ho;have e0:(o==0)=false:=by simpa using ho
    have h3:=wI64 i (by omega);cases hh:PX L g (.lev (n+1)) (i+1) d1 (t::R) with
    |none=>rw[hh] at h;cases h
    |some rr =>
     have hk:=xO _ _ _ _ _ _ hh (by omega) hd trivial;have hcall:=hih g (by omega) (i+1) d1 (t::R) rr hh (by omega) hd (by rw[hlenT];omega);rw[hl] at hcall;have hg2:=zBp (zA6 _ _ _ _ _ _ hh) (List.cons_ne_nil _ _);rw[hh] at h;cases rr with
     |pan e i2 d2 T2 =>
      cases h;rcases T2 with _|⟨t2,R2⟩
      ·exact absurd rfl hg2
      simp only[RX.o,rd,rdT,rdR,yZ] at hcall;generalize (t::R).map Node.c=E0 at *;have hQ:((RX.pan e i2 d2 (t2::R2)).o l)=(.pan (.t (.ifc 271 (.int .i64 e))),[.box [.t l,.t (.int .i64 (i2:Int)),.t (.int .i64 (d2:Int)),.hs 1 0],.arr 8 0 false ((t2::R2).map Node.c)]):=rfl;rw[hQ];clear hQ hih;generalize (t2::R2).map Node.c=E1 at *
      (refine gA ?_)
      refine aM ?_
      rfl
     |ok b i2 d2 T2 =>
      dsimp only at h;obtain⟨k1,k2,k3,k4,k5⟩:=hk;simp only[Cmd.dt] at k3;subst k3;rcases T2 with _|⟨t2,R2⟩
      ·exact absurd rfl hg2
      have hnode:=zB1 l i2 d2 (t2::R2) o 0 0 [] [] (.sl true true []) ⟨false,false,[(a:Int),(b:Int)]⟩ (plW L i).1 (plW L i).2 (by omega);have hN:xK o VZ [] [(a:Int),(b:Int)] (plW L i)=⟨o,⟨0,0,[]⟩,[],⟨false,false,[(a:Int),(b:Int)]⟩,(plW L i).1,(plW L i).2⟩:=rfl;rw[hN] at h;generalize hNN:(⟨o,⟨0,0,[]⟩,[],⟨false,false,[(a:Int),(b:Int)]⟩,(plW L i).1,(plW L i).2⟩:Node)=N at *;rw[List.cons_append] at hnode h;simp only[Sl.t,intC,List.map_cons,List.map_nil] at hnode;simp only[rd,rdT,rdR] at hnode;simp only[RX.o,rd,rdT,rdR,yZ] at hcall;generalize (plW L i).1=p1 at *;generalize (plW L i).2=p2 at *;generalize hlenT2:(t2::R2).length=lenT2 at *;have hih2:=hih;clear hih hN hNN;generalize hE0:(t::R).map Node.c=E0 at *;generalize hE1:(t2::R2).map Node.c=E1 at *;generalize hE2:(t2::(R2++[N])).map Node.c=E2 at *;cases hm:zFR n with
      |true =>
       rw[hm,if_pos rfl] at h;have hpost:PX L g (.row n lenT2) i2 d2 (t2::(R2++[N]))=some r∧g≤f∧i2≤L.length∧lenT2<(t2::(R2++[N])).length∧(t2::(R2++[N])).length+(L.length - i2)≤4000000000:=by
        have:(t2::(R2++[N])).length=lenT2+1:=by rw[← hlenT2];simp
        refine⟨h,by omega,k2,by omega,by omega⟩
       clear h hE0 hE1 hlenT hlenT2
       (refine gA ?_)
       subst hE2;exact zC ⟨g,lenT2,i2,t2,R2++[N]⟩ (by dsimp only;omega) hpost (by exact aTd)
      |false =>
       rw[hm,if_neg (by simp)] at h;cases h;have hQ:((RX.ok lenT2 i2 d2 (t2::(R2++[N]))).o l)=(.val (.t (.int .i64 (lenT2:Nat))),[.box [.t l,.t (.int .i64 (i2:Int)),.t (.int .i64 (d2:Int)),.hs 1 0],.arr 8 0 false ((t2::(R2++[N])).map Node.c)]):=rfl;rw[hQ,hE2];clear hE0 hE1 hlenT hlenT2 hQ hE2
       (refine gA ?_)
       refine aJ ?_
       rfl
   ·cases h;subst ho;generalize hE0:(t::R).map Node.c=E0 at *;have e0:((0:Int)==0)=true:=rfl
    (refine gA ?_)
    refine aJ ?_;subst hE0
    rfl
   have hlt:=hlt ho;have e0:(o==0)=false:=by simpa using ho
   have h3:=wI64 i (by omega);cases hh:PX L g (.lev (n+1)) (i+1) d1 (t::R) with
   |none=>rw[hh] at h;cases h
   |some rr =>
    have hk:=xO _ _ _ _ _ _ hh (by omega) hd trivial;have hcall:=hih g (by omega) (i+1) d1 (t::R) rr hh (by omega) hd (by rw[hlenT];omega);rw[hl] at hcall;have hg2:=zBp (zA6 _ _ _ _ _ _ hh) (List.cons_ne_nil _ _);rw[hh] at h;cases rr with
    |pan e i2 d2 T2 =>
     cases h;rcases T2 with _|⟨t2,R2⟩
     ·exact absurd rfl hg2
     simp only[RX.o,rd,rdT,rdR,yZ] at hcall;generalize (t::R).map Node.c=E0 at *;have hQ:((RX.pan e i2 d2 (t2::R2)).o l)=(.pan (.t (.ifc 271 (.int .i64 e))),[.box [.t l,.t (.int .i64 (i2:Int)),.t (.int .i64 (d2:Int)),.hs 1 0],.arr 8 0 false ((t2::R2).map Node.c)]):=rfl;rw[hQ];clear hQ hih;generalize (t2::R2).map Node.c=E1 at *
     (refine gA ?_)
     refine aM ?_
     rfl
    |ok b i2 d2 T2 =>
     dsimp only at h;obtain⟨k1,k2,k3,k4,k5⟩:=hk;simp only[Cmd.dt] at k3;subst k3;rcases T2 with _|⟨t2,R2⟩
     ·exact absurd rfl hg2
     have hnode:=zB1 l i2 d2 (t2::R2) o 0 0 [] [] (.sl true true []) ⟨false,false,[(a:Int),(b:Int)]⟩ (plW L i).1 (plW L i).2 (by omega);have hN:xK o VZ [] [(a:Int),(b:Int)] (plW L i)=⟨o,⟨0,0,[]⟩,[],⟨false,false,[(a:Int),(b:Int)]⟩,(plW L i).1,(plW L i).2⟩:=rfl;rw[hN] at h;generalize hNN:(⟨o,⟨0,0,[]⟩,[],⟨false,false,[(a:Int),(b:Int)]⟩,(plW L i).1,(plW L i).2⟩:Node)=N at *;rw[List.cons_append] at hnode h;simp only[Sl.t,intC,List.map_cons,List.map_nil] at hnode;simp only[rd,rdT,rdR] at hnode;simp only[RX.o,rd,rdT,rdR,yZ] at hcall;generalize (plW L i).1=p1 at *;generalize (plW L i).2=p2 at *;generalize hlenT2:(t2::R2).length=lenT2 at *;have hih2:=hih;clear hih hN hNN;generalize hE0:(t::R).map Node.c=E0 at *;generalize hE1:(t2::R2).map Node.c=E1 at *;generalize hE2:(t2::(R2++[N])).map Node.c=E2 at *;cases hm:zFR n with
     |true =>
      rw[hm,if_pos rfl] at h;have hpost:PX L g (.row n lenT2) i2 d2 (t2::(R2++[N]))=some r∧g≤f∧i2≤L.length∧lenT2<(t2::(R2++[N])).length∧(t2::(R2++[N])).length+(L.length - i2)≤4000000000:=by
       have:(t2::(R2++[N])).length=lenT2+1:=by rw[← hlenT2];simp
       refine⟨h,by omega,k2,by omega,by omega⟩
      clear h hE0 hE1 hlenT hlenT2
      (refine gA ?_)
      subst hE2;exact zC ⟨g,lenT2,i2,t2,R2++[N]⟩ (by dsimp only;omega) hpost (by exact aTd)
     |false =>
      rw[hm,if_neg (by simp)] at h;cases h;have hQ:((RX.ok lenT2 i2 d2 (t2::(R2++[N]))).o l)=(.val (.t (.int .i64 (lenT2:Nat))),[.box [.t l,.t (.int .i64 (i2:Int)),.t (.int .i64 (d2:Int)),.hs 1 0],.arr 8 0 false ((t2::(R2++[N])).map Node.c)]):=rfl;rw[hQ,hE2];clear hE0 hE1 hlenT hlenT2 hQ hE2
      (refine gA ?_)
      refine aJ ?_
      rfl
def zIi(w:List Nat):Om CC 278 [.t (.str w)] []=some (.val (match wV w jZ with
  |some x=>.tup [.t (.agg [.int .u8 x.1,.int .i64 (x.2.1:Nat),.int .i64 (x.2.2:Nat)]),.t (.bool true)]
  |none=>.tup [.t (.agg [.int .u8 0,.int .i64 0,.int .i64 0]),.t (.bool false)]),[]):=by
 have zz:=zZ3;have q1_0:beqL [109,105,110] [97,98,115]=false:=rfl;have q2_0:beqL [109,97,120] [97,98,115]=false:=rfl;have q2_1:beqL [109,97,120] [109,105,110]=false:=rfl;have q3_0:beqL [109,111,100] [97,98,115]=false:=rfl;have q3_1:beqL [109,111,100] [109,105,110]=false:=rfl;have q3_2:beqL [109,111,100] [109,97,120]=false:=rfl;have q4_0:beqL [108,101,110,103,116,104] [97,98,115]=false:=rfl;have q4_1:beqL [108,101,110,103,116,104] [109,105,110]=false:=rfl;have q4_2:beqL [108,101,110,103,116,104] [109,97,120]=false:=rfl;have q4_3:beqL [108,101,110,103,116,104] [109,111,100]=false:=rfl;have q5_0:beqL [117,112,112,101,114] [97,98,115]=false:=rfl;have q5_1:beqL [117,112,112,101,114] [109,105,110]=false:=rfl;have q5_2:beqL [117,112,112,101,114] [109,97,120]=false:=rfl;have q5_3:beqL [117,112,112,101,114] [109,111,100]=false:=rfl;have q5_4:beqL [117,112,112,101,114] [108,101,110,103,116,104]=false:=rfl;have q6_0:beqL [99,111,110,116,97,105,110,115] [97,98,115]=false:=rfl;have q6_1:beqL [99,111,110,116,97,105,110,115] [109,105,110]=false:=rfl;have q6_2:beqL [99,111,110,116,97,105,110,115] [109,97,120]=false:=rfl;have q6_3:beqL [99,111,110,116,97,105,110,115] [109,111,100]=false:=rfl;have q6_4:beqL [99,111,110,116,97,105,110,115] [108,101,110,103,116,104]=false:=rfl;have q6_5:beqL [99,111,110,116,97,105,110,115] [117,112,112,101,114]=false:=rfl;have q7_0:beqL [115,116,97,114,116,115] [97,98,115]=false:=rfl;have q7_1:beqL [115,116,97,114,116,115] [109,105,110]=false:=rfl;have q7_2:beqL [115,116,97,114,116,115] [109,97,120]=false:=rfl;have q7_3:beqL [115,116,97,114,116,115] [109,111,100]=false:=rfl;have q7_4:beqL [115,116,97,114,116,115] [108,101,110,103,116,104]=false:=rfl;have q7_5:beqL [115,116,97,114,116,115] [117,112,112,101,114]=false:=rfl;have q7_6:beqL [115,116,97,114,116,115] [99,111,110,116,97,105,110,115]=false:=rfl;have q8_0:beqL [105,102] [97,98,115]=false:=rfl;have q8_1:beqL [105,102] [109,105,110]=false:=rfl;have q8_2:beqL [105,102] [109,97,120]=false:=rfl;have q8_3:beqL [105,102] [109,111,100]=false:=rfl;have q8_4:beqL [105,102] [108,101,110,103,116,104]=false:=rfl;have q8_5:beqL [105,102] [117,112,112,101,114]=false:=rfl;have q8_6:beqL [105,102] [99,111,110,116,97,105,110,115]=false:=rfl;have q8_7:beqL [105,102] [115,116,97,114,116,115]=false:=rfl;have he:∀a:List Nat,beqL w a=decide (a=w):=fun a=>by rw[vC];exact decide_eq_decide.2 eq_comm
 simp only[jZ,wV]
 (have F_:=c5 zG zE zD jC (c2 yDS yFT))
 by_cases h0:[97,98,115]=w
 ·have b0:beqL w [97,98,115]=true:=by rw[he];exact decide_eq_true h0
  rw[if_pos h0];clear he h0;refine zK zBr rfl ?_
  (simp only[zV,List.length_cons,List.length_nil,Nat.zero_add,Nat.reduceAdd];show W CC _ 24 (zA 278) _ _ _)
  (refine gA ?_)
  refine aK ?_ ?_<;>rfl
 rw[if_neg h0];have b0:beqL w [97,98,115]=false:=by rw[he];exact decide_eq_false h0
 clear h0
 by_cases h1:[109,105,110]=w
 ·have b1:beqL w [109,105,110]=true:=by rw[he];exact decide_eq_true h1
  rw[if_pos h1];clear he h1;refine zK zBr rfl ?_
  (simp only[zV,List.length_cons,List.length_nil,Nat.zero_add,Nat.reduceAdd];show W CC _ 24 (zA 278) _ _ _)
  (refine gA ?_)
  refine aK ?_ ?_<;>rfl
 rw[if_neg h1];have b1:beqL w [109,105,110]=false:=by rw[he];exact decide_eq_false h1
 clear h1
 by_cases h2:[109,97,120]=w
 ·have b2:beqL w [109,97,120]=true:=by rw[he];exact decide_eq_true h2
  rw[if_pos h2];clear he h2;refine zK zBr rfl ?_
  (simp only[zV,List.length_cons,List.length_nil,Nat.zero_add,Nat.reduceAdd];show W CC _ 24 (zA 278) _ _ _)
  (refine gA ?_)
  refine aK ?_ ?_<;>rfl
 rw[if_neg h2];have b2:beqL w [109,97,120]=false:=by rw[he];exact decide_eq_false h2
 clear h2
 by_cases h3:[109,111,100]=w
 ·have b3:beqL w [109,111,100]=true:=by rw[he];exact decide_eq_true h3
  rw[if_pos h3];clear he h3;refine zK zBr rfl ?_
  (simp only[zV,List.length_cons,List.length_nil,Nat.zero_add,Nat.reduceAdd];show W CC _ 24 (zA 278) _ _ _)
  (refine gA ?_)
  refine aK ?_ ?_<;>rfl
 rw[if_neg h3];have b3:beqL w [109,111,100]=false:=by rw[he];exact decide_eq_false h3
 clear h3
 by_cases h4:[108,101,110,103,116,104]=w
 ·have b4:beqL w [108,101,110,103,116,104]=true:=by rw[he];exact decide_eq_true h4
  rw[if_pos h4];clear he h4;refine zK zBr rfl ?_
  (simp only[zV,List.length_cons,List.length_nil,Nat.zero_add,Nat.reduceAdd];show W CC _ 24 (zA 278) _ _ _)
  (refine gA ?_)
  refine aK ?_ ?_<;>rfl
 rw[if_neg h4];have b4:beqL w [108,101,110,103,116,104]=false:=by rw[he];exact decide_eq_false h4
 clear h4
 by_cases h5:[117,112,112,101,114]=w
 ·have b5:beqL w [117,112,112,101,114]=true:=by rw[he];exact decide_eq_true h5
  rw[if_pos h5];clear he h5;refine zK zBr rfl ?_
  (simp only[zV,List.length_cons,List.length_nil,Nat.zero_add,Nat.reduceAdd];show W CC _ 24 (zA 278) _ _ _)
  (refine gA ?_)
  refine aK ?_ ?_<;>rfl
 rw[if_neg h5];have b5:beqL w [117,112,112,101,114]=false:=by rw[he];exact decide_eq_false h5
 clear h5
 by_cases h6:[99,111,110,116,97,105,110,115]=w
 ·have b6:beqL w [99,111,110,116,97,105,110,115]=true:=by rw[he];exact decide_eq_true h6
  rw[if_pos h6];clear he h6;refine zK zBr rfl ?_
  (simp only[zV,List.length_cons,List.length_nil,Nat.zero_add,Nat.reduceAdd];show W CC _ 24 (zA 278) _ _ _)
  (refine gA ?_)
  refine aK ?_ ?_<;>rfl
 rw[if_neg h6];have b6:beqL w [99,111,110,116,97,105,110,115]=false:=by rw[he];exact decide_eq_false h6
 clear h6
 by_cases h7:[115,116,97,114,116,115]=w
 ·have b7:beqL w [115,116,97,114,116,115]=true:=by rw[he];exact decide_eq_true h7
  rw[if_pos h7];clear he h7;refine zK zBr rfl ?_
  (simp only[zV,List.length_cons,List.length_nil,Nat.zero_add,Nat.reduceAdd];show W CC _ 24 (zA 278) _ _ _)
  (refine gA ?_)
  refine aK ?_ ?_<;>rfl
 rw[if_neg h7];have b7:beqL w [115,116,97,114,116,115]=false:=by rw[he];exact decide_eq_false h7
 clear h7
 by_cases h8:[105,102]=w
 ·have b8:beqL w [105,102]=true:=by rw[he];exact decide_eq_true h8
  rw[if_pos h8];clear he h8;refine zK zBr rfl ?_
  (simp only[zV,List.length_cons,List.length_nil,Nat.zero_add,Nat.reduceAdd];show W CC _ 24 (zA 278) _ _ _)
  (refine gA ?_)
  refine aK ?_ ?_<;>rfl
 rw[if_neg h8];have b8:beqL w [105,102]=false:=by rw[he];exact decide_eq_false h8
 clear h8;clear he;refine zK zBr rfl ?_
 (simp only[zV,List.length_cons,List.length_nil,Nat.zero_add,Nat.reduceAdd];show W CC _ 24 (zA 278) _ _ _)
 (refine gA ?_)
 refine aK ?_ ?_<;>rfl
def zL5(w:List Nat):Om CC 277 [.t (.str w)] []=some (.val (match wV w zB8 with
  |some x=>.tup [.t (.agg [.int .u8 x.k,.int .i64 x.n,.str x.s]),.t (.bool true)]
  |none=>.tup [.t (.agg [.int .u8 0,.int .i64 0,.str []]),.t (.bool false)]),[]):=by
 have zz:=yEV;have q1_0:beqL [102,97,108,115,101] [116,114,117,101]=false:=rfl;have q2_0:beqL [110,117,108,108] [116,114,117,101]=false:=rfl;have q2_1:beqL [110,117,108,108] [102,97,108,115,101]=false:=rfl;have he:∀a:List Nat,beqL w a=decide (a=w):=fun a=>by rw[vC];exact decide_eq_decide.2 eq_comm
 simp only[zB8,wV]
 (have F_:=c5 zF zE zD zB (c2 yCE yFl))
 by_cases h0:[116,114,117,101]=w
 ·have b0:beqL w [116,114,117,101]=true:=by rw[he];exact decide_eq_true h0
  rw[if_pos h0];clear he h0;refine zK zIW rfl ?_
  (simp only[zV,List.length_cons,List.length_nil,Nat.zero_add,Nat.reduceAdd];show W CC _ 18 (zA 277) _ _ _)
  (refine gA ?_)
  refine aK ?_ ?_<;>rfl
 rw[if_neg h0];have b0:beqL w [116,114,117,101]=false:=by rw[he];exact decide_eq_false h0
 clear h0
 by_cases h1:[102,97,108,115,101]=w
 ·have b1:beqL w [102,97,108,115,101]=true:=by rw[he];exact decide_eq_true h1
  rw[if_pos h1];clear he h1;refine zK zIW rfl ?_
  (simp only[zV,List.length_cons,List.length_nil,Nat.zero_add,Nat.reduceAdd];show W CC _ 18 (zA 277) _ _ _)
  (refine gA ?_)
  refine aK ?_ ?_<;>rfl
 rw[if_neg h1];have b1:beqL w [102,97,108,115,101]=false:=by rw[he];exact decide_eq_false h1
 clear h1
 by_cases h2:[110,117,108,108]=w
 ·have b2:beqL w [110,117,108,108]=true:=by rw[he];exact decide_eq_true h2
  rw[if_pos h2];clear he h2;refine zK zIW rfl ?_
  (simp only[zV,List.length_cons,List.length_nil,Nat.zero_add,Nat.reduceAdd];show W CC _ 18 (zA 277) _ _ _)
  (refine gA ?_)
  refine aK ?_ ?_<;>rfl
 rw[if_neg h2];have b2:beqL w [110,117,108,108]=false:=by rw[he];exact decide_eq_false h2
 clear h2;clear he;refine zK zIW rfl ?_
 (simp only[zV,List.length_cons,List.length_nil,Nat.zero_add,Nat.reduceAdd];show W CC _ 18 (zA 277) _ _ _)
 (refine gA ?_)
 refine aK ?_ ?_<;>rfl
end Go.Ab
