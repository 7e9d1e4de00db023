/- Lemmas. -/
import Derived.Test.YtdbfacakphncfaaGreatDoorG08
set_option maxRecDepth 1000000
set_option maxHeartbeats 4000000
set_option linter.unusedSimpArgs false
set_option linter.unusedVariables false
namespace Go.Ab
open Go.Proofs
structure CallI where
 g:Nat
 i:Nat
 t:Node
 r:List Node
 K:List Int
theorem zT1 {nl cl:Bool} {L:List Tok} {i d:Nat} {T:List Node} {op:Int} {least most:Nat} {p:Int×Int} (hi:i<9223372036854775806) (hw:isW L (i+1) [40]=false) :
  Om CC 258 [.box 0 0,.t (.agg [.int .u8 op,.int .i64 (least:Int),.int .i64 (most:Int)]),.t (.agg [.int .i64 p.1,.int .i64 p.2])] (rd (.sl nl cl (L.map Tok.c)) i d T)=some ((RX.pan 4 (i+1) d T).o (.sl nl cl (L.map Tok.c))):=by
 have h1:=uC nl cl L (i+1) d T [40];have h2:=zB0 nl cl L (i+1) d T [40] hw;rw[hw] at h1;clear hw;have h4:IntKind.i64.wrap ((i:Int)+1)=((i+1:Nat):Int):=by rw[wrap64]<;>omega
 generalize Tree.sl nl cl (L.map Tok.c)=l at *
 (have F_:=c5 zK zO zR zL (c5 zI zH yA zS (c5 yG yF zY zQ (c5 yO yP vL kZ (c3 zMK vV zAt)))))
 rcases T with _|⟨t0,T0⟩
 all_goals simp only[RX.o,rd,rdT,rdR,xG] at h1 h2 ⊢
 all_goals try generalize (t0::T0).map Node.c=E0 at *
 all_goals refine wO zHQ rfl ?_
 all_goals (simp only[zT,List.length_cons,List.length_nil,Nat.zero_add,Nat.reduceAdd];show W CC _ 74 (zE 258) _ _ _)
 all_goals (with_reducible repeat' first|apply aA|refine aB ?_|refine aC ?_|refine aD ?_|(first|apply zB|apply zA|apply zC|apply zD)<;>intro hg<;>try with_unfolding_all cases hg;done|refine aE ?_|refine aF ?_|refine aG ?_|refine aH ?_ ?_<;>intro hv<;>try with_unfolding_all cases hv;done)
 all_goals first|(refine aJ ?_;rfl)|(refine aM ?_;rfl)
theorem zO1 {nl cl:Bool} {L:List Tok} {i:Nat} {T:List Node} {op:Int} {least most:Nat} {p:Int×Int} (hi:i<9223372036854775806) (hw:isW L (i+1) [40]=true) :
  Om CC 258 [.box 0 0,.t (.agg [.int .u8 op,.int .i64 (least:Int),.int .i64 (most:Int)]),.t (.agg [.int .i64 p.1,.int .i64 p.2])] (rd (.sl nl cl (L.map Tok.c)) i 12 T)=some ((RX.pan 12 (i+1) 12 T).o (.sl nl cl (L.map Tok.c))):=by
 have h1:=uC nl cl L (i+1) 12 T [40];have h2:=zIt (.sl nl cl (L.map Tok.c)) (i+1) T;rw[hw] at h1;clear hw;have h4:IntKind.i64.wrap ((i:Int)+1)=((i+1:Nat):Int):=by rw[wrap64]<;>omega
 generalize Tree.sl nl cl (L.map Tok.c)=l at *
 (have F_:=c5 zK zO zR zL (c5 zI zH yA zS (c5 yG yF zY zQ (c5 yO yP vL kZ (c3 zMK vV kW)))))
 rcases T with _|⟨t0,T0⟩
 all_goals simp only[RX.o,rd,rdT,rdR,xG] at h1 h2 ⊢
 all_goals try generalize (t0::T0).map Node.c=E0 at *
 all_goals refine wO zHQ rfl ?_
 all_goals (simp only[zT,List.length_cons,List.length_nil,Nat.zero_add,Nat.reduceAdd];show W CC _ 74 (zE 258) _ _ _)
 all_goals (with_reducible repeat' first|apply aA|refine aB ?_|refine aC ?_|refine aD ?_|(first|apply zB|apply zA|apply zC|apply zD)<;>intro hg<;>try with_unfolding_all cases hg;done|refine aE ?_|refine aF ?_|refine aG ?_|refine aH ?_ ?_<;>intro hv<;>try with_unfolding_all cases hv;done)
 all_goals first|(refine aJ ?_;rfl)|(refine aM ?_;rfl)
theorem zTe {nl cl:Bool} {L:List Tok} {i0 d2' f:Nat} {T:List Node} {r:RX} {op:Int} {least most:Nat} {p:Int×Int} (hL:L.length<4000000000) (hih:LevH nl cl L 0 f) (h:PX L f (.call op least most [] p) (i0+2) (d2'+1) T=some r) (hw:isW L (i0+1) [40]=true)
  (hi:i0+2≤L.length) (hd:d2'<12) (hB:T.length+(L.length - (i0+2))≤4000000000) :
  Om CC 258 [.box 0 0,.t (.agg [.int .u8 op,.int .i64 (least:Int),.int .i64 (most:Int)]),.t (.agg [.int .i64 p.1,.int .i64 p.2])] (rd (.sl nl cl (L.map Tok.c)) i0 d2' T)=some (r.o (.sl nl cl (L.map Tok.c))):=by
 have h1:=uC nl cl L (i0+1) d2' T [40];have h2:=zCU (.sl nl cl (L.map Tok.c)) (i0+1) d2' T hd;have h3:=zAE nl cl L (i0+1) (d2'+1) T [40] (by omega) hw;rw[hw] at h1;clear hw;have h4:IntKind.i64.wrap ((i0:Int)+1)=((i0+1:Nat):Int):=by rw[wrap64]<;>omega
 generalize hl:Tree.sl nl cl (L.map Tok.c)=l at *;have hd:d2'+1≤12:=hd;generalize hii:i0+2=i at *;have hii2:i0+1+1=i:=by omega
 generalize hK0:([]:List Int)=K at h;have hKB:K.length+(L.length - i)≤4000000000:=by(rw[← hK0,List.length_nil];omega)
 rcases f with _|g
 ·simp [PX] at h
 rw[PX] at h;generalize hff:g+1=f at *;have hg:g<f:=by omega
 (have F_:=c5 zK zO zR zL (c5 zI zH yA zS (c5 yG yF zY zQ (c5 yO yP vL kZ (c5 zMK vV kW zAt (c2 kA jP))))))
 rcases T with _|⟨t,R⟩
 ·simp only[rd,rdT,rdR] at h1 h2 h3 ⊢;refine wO zHQ rfl ?_
  (simp only[zT,List.length_cons,List.length_nil,Nat.zero_add,Nat.reduceAdd];show W CC _ 74 (zE 258) _ _ _)
  (with_reducible repeat' first|apply aA|refine aB ?_|refine aC ?_|refine aD ?_|(first|apply zB|apply zA|apply zC|apply zD)<;>intro hg<;>try with_unfolding_all cases hg;done|refine aE ?_|refine aF ?_|refine aG ?_|refine aH ?_ ?_<;>intro hv<;>try with_unfolding_all cases hv;done)
  clear h1 h2 h3 hii hii2 h4
  (refine aI ?_)
  cases hh:PX L g (.lev 0) i (d2'+1) [] with
  |none=>rw[hh] at h;cases h
  |some rr =>
   have hk:=xQ _ _ _ _ _ _ hh hi hd trivial;have hcall:=hih g (by omega) i (d2'+1) [] rr hh hi hd hB;rw[hl] at hcall;have hcall:Om CC 186 [.box 0 0,.t (.int .i64 0)] (rd l i (d2'+1) [])=some (rr.o l):=hcall;rw[hh] at h;cases rr with
   |pan e i2 d2 T2 =>
    cases h;rcases T2 with _|⟨t2,R2⟩
    ·simp only[RX.o,rd,rdT,rdR,xG] at hcall ⊢
     (with_reducible repeat' first|apply aA|refine aB ?_|refine aC ?_|refine aD ?_|(first|apply zB|apply zA|apply zC|apply zD)<;>intro hg<;>try with_unfolding_all cases hg;done|refine aE ?_|refine aF ?_|refine aG ?_|refine aH ?_ ?_<;>intro hv<;>try with_unfolding_all cases hv;done)
     refine aM ?_
     rfl
    simp only[RX.o,rd,rdT,rdR,xG] at hcall ⊢;generalize (t2::R2).map Node.c=E1 at *
    (with_reducible repeat' first|apply aA|refine aB ?_|refine aC ?_|refine aD ?_|(first|apply zB|apply zA|apply zC|apply zD)<;>intro hg<;>try with_unfolding_all cases hg;done|refine aE ?_|refine aF ?_|refine aG ?_|refine aH ?_ ?_<;>intro hv<;>try with_unfolding_all cases hv;done)
    refine aM ?_
    rfl
   |ok a i2 d3 T2 =>
    dsimp only at h;obtain⟨k1,k2,k3,k4,k5⟩:=hk;simp only[Cmd.dt] at k3;subst k3;rcases T2 with _|⟨t2,R2⟩
    ·exact absurd k5 (by simp)
    have his44:=uC nl cl L i2 (d2'+1) (t2::R2) [44];have hm1:=zAE nl cl L i2 (d2'+1) (t2::R2) [41];have hm0:=zB0 nl cl L i2 (d2'+1) (t2::R2) [41];have his41:=uC nl cl L i2 (d2'+1) (t2::R2) [41];have hox:=@wU L i2 [44] [41];rw[hl] at his44 hm1 hm0 his41;have hkl:(K++[(a:Int)]).length=K.length+1:=by simp
    have hnode:=jO l (i2+1) d2' (t2::R2) op 0 0 [] [] (.sl true true []) ⟨false,false,K++[(a:Int)]⟩ p.1 p.2 (by omega);have hN:vD op VZ [] (K++[(a:Int)]) p=⟨op,⟨0,0,[]⟩,[],⟨false,false,K++[(a:Int)]⟩,p.1,p.2⟩:=by unfold vD;rw[if_neg (by simp)];rfl
    rw[hN] at h;generalize hNN:(⟨op,⟨0,0,[]⟩,[],⟨false,false,K++[(a:Int)]⟩,p.1,p.2⟩:Node)=N at *;rw[List.cons_append] at hnode h;have hKm:(K++[(a:Int)]).map intC=K.map intC++[[.int .i64 (a:Int)]]:=by rw[List.map_append];rfl
    simp only[Sl.t,hKm] at hnode;have hEl:(K.map intC++[[Tree.int .i64 (a:Int)]]).length=K.length+1:=by simp
    have hsm:decide ((K.map intC).length+1<4294967296)=true:=by(rw[decide_eq_true_eq,List.length_map];omega)
    have hlens:lens 1 (K.map intC)=true:=by unfold lens;rw[List.all_map];exact List.all_eq_true.2 fun x _=>rfl
    simp only[rd,rdT,rdR] at hnode his44 hm1 hm0 his41 hcall;simp only[RX.o,rd,rdT,rdR] at hcall;rw[hkl] at h;have e1:=zA1 (K.length+1) most;have e2:=zMk (K.length+1) least;generalize hq1:(K.length+1==most)=q1 at *;generalize hq2:Nat.blt (K.length+1) least=q2 at *;generalize hlenT2:(t2::R2).length=lenT2 at *;have hlen2:(t2::(R2++[N])).length=lenT2+1:=by rw[← hlenT2];simp
    clear hNN hN
    skip
    generalize hE1:(t2::R2).map Node.c=E1 at *;generalize hE2:(t2::(R2++[N])).map Node.c=E2 at *;subst hK0;simp only[List.map_nil,List.nil_append,List.length_nil,Nat.zero_add] at hnode h hsm hEl hlens e1 e2 hq1 hq2 hKB hkl ⊢;clear hKm;generalize hl44:isW L i2 [44]=z44 at *;generalize hl41:isW L i2 [41]=z41 at *;cases z44 with
    |true =>
     have h41:z41=false:=hox rfl (by decide);rw[h41] at h his41;clear hnode hm0 hm1 hox;cases q1 with
     |true =>
      rw[if_pos (by simp)] at h;cases h;simp only[RX.o,rd,rdT,rdR,xG,hE1];clear hE1 hE2
      (with_reducible repeat' first|apply aA|refine aB ?_|refine aC ?_|refine aD ?_|(first|apply zB|apply zA|apply zC|apply zD)<;>intro hg<;>try with_unfolding_all cases hg;done|refine aE ?_|refine aF ?_|refine aG ?_|refine aH ?_ ?_<;>intro hv<;>try with_unfolding_all cases hv;done)
      refine aM ?_
      rfl
     |false =>
      rw[if_neg (by simp),if_pos rfl] at h;have hw3:IntKind.i64.wrap ((i2:Int)+1)=((i2+1:Nat):Int):=by rw[wrap64]<;>omega
      have hlt2:=yC hl44;have hpost:PX L g (.call op least most ([]++[(a:Int)]) p) (i2+1) (d2'+1) (t2::R2)=some r∧g<f∧i2+1≤L.length∧(t2::R2).length+(L.length - (i2+1))≤4000000000∧([]++[(a:Int)]).length+(L.length - (i2+1))≤4000000000:=⟨h,by omega,by omega,by(rw[hlenT2];omega),by(simp only[List.nil_append,List.length_cons,List.length_nil];omega)⟩
      clear h hl44 hl41 hE2
      (with_reducible repeat' first|apply aA|refine aB ?_|refine aC ?_|refine aD ?_|(first|apply zB|apply zA|apply zC|apply zD)<;>intro hg<;>try with_unfolding_all cases hg;done|refine aE ?_|refine aF ?_|refine aG ?_|refine aH ?_ ?_<;>intro hv<;>try with_unfolding_all cases hv;done)
      subst hE1;refine yS (α:=CallI) (fun x=>⟨[(0,.box 0 0),(4,.box 2 0),(5,.box 3 0),(7,.hs 4 0)],[.box [.t l,.t (.int .i64 (x.i:Int)),.t (.int .i64 ((d2'+1:Nat):Int)),.hs 1 0],.arr 8 0 false ((x.t::x.r).map Node.c),.box [.t (.int .u8 op),.t (.int .i64 (least:Int)),.t (.int .i64 (most:Int))],.box [.t (.int .i64 p.1),.t (.int .i64 p.2)],.arr 1 0 false (x.K.map intC)]⟩) (fun x=>x.g) (fun x=>PX L x.g (.call op least most x.K p) x.i (d2'+1) (x.t::x.r)=some r∧x.g<f∧x.i≤L.length∧(x.t::x.r).length+(L.length - x.i)≤4000000000∧x.K.length+(L.length - x.i)≤4000000000) ⟨g,i2+1,t2,R2,[(a:Int)]⟩ (by exact aTd) hpost ?_;clear hpost hcall hh his44 his41;rintro⟨g,i,t,R,K⟩ ⟨h,hg,hi,hB,hKB⟩;dsimp only at h hg hi hB hKB ⊢;rcases g with _|g
      ·simp [PX] at h
      rw[PX] at h;cases hh:PX L g (.lev 0) i (d2'+1) (t::R) with
      |none=>rw[hh] at h;cases h
      |some rr =>
       have hk:=xQ _ _ _ _ _ _ hh hi hd trivial;have hcall:=hih g (by omega) i (d2'+1) (t::R) rr hh hi hd hB;rw[hl] at hcall;have hcall:Om CC 186 [.box 0 0,.t (.int .i64 0)] (rd l i (d2'+1) (t::R))=some (rr.o l):=hcall;rw[hh] at h;cases rr with
       |pan e i2 d2 T2 =>
        cases h;rcases T2 with _|⟨t2,R2⟩
        ·exact absurd rfl (kF (jM _ _ _ _ _ _ hh) (List.cons_ne_nil _ _))
        simp only[RX.o,rd,rdT,rdR,xG] at hcall ⊢;generalize (t::R).map Node.c=E0 at *;generalize (t2::R2).map Node.c=E1 at *
        (with_reducible repeat' first|apply aA|refine aB ?_|refine aC ?_|refine aD ?_|(first|apply zB|apply zA|apply zC|apply zD)<;>intro hg<;>try with_unfolding_all cases hg;done|refine aE ?_|refine aF ?_|refine aG ?_|refine aH ?_ ?_<;>intro hv<;>try with_unfolding_all cases hv;done)
        refine aM ?_
        rfl
       |ok a i2 d3 T2 =>
        dsimp only at h;obtain⟨k1,k2,k3,k4,k5⟩:=hk;simp only[Cmd.dt] at k3;subst k3;rcases T2 with _|⟨t2,R2⟩
        ·exact absurd k5 (by simp)
        have his44:=uC nl cl L i2 (d2'+1) (t2::R2) [44];have hm1:=zAE nl cl L i2 (d2'+1) (t2::R2) [41];have hm0:=zB0 nl cl L i2 (d2'+1) (t2::R2) [41];have his41:=uC nl cl L i2 (d2'+1) (t2::R2) [41];have hox:=@wU L i2 [44] [41];rw[hl] at his44 hm1 hm0 his41;have hkl:(K++[(a:Int)]).length=K.length+1:=by simp
        have hnode:=jO l (i2+1) d2' (t2::R2) op 0 0 [] [] (.sl true true []) ⟨false,false,K++[(a:Int)]⟩ p.1 p.2 (by omega);have hN:vD op VZ [] (K++[(a:Int)]) p=⟨op,⟨0,0,[]⟩,[],⟨false,false,K++[(a:Int)]⟩,p.1,p.2⟩:=by unfold vD;rw[if_neg (by simp)];rfl
        rw[hN] at h;generalize hNN:(⟨op,⟨0,0,[]⟩,[],⟨false,false,K++[(a:Int)]⟩,p.1,p.2⟩:Node)=N at *;rw[List.cons_append] at hnode h;have hKm:(K++[(a:Int)]).map intC=K.map intC++[[.int .i64 (a:Int)]]:=by rw[List.map_append];rfl
        simp only[Sl.t,hKm] at hnode;have hEl:(K.map intC++[[Tree.int .i64 (a:Int)]]).length=K.length+1:=by simp
        have hsm:decide ((K.map intC).length+1<4294967296)=true:=by(rw[decide_eq_true_eq,List.length_map];omega)
        have hlens:lens 1 (K.map intC)=true:=by unfold lens;rw[List.all_map];exact List.all_eq_true.2 fun x _=>rfl
        simp only[rd,rdT,rdR] at hnode his44 hm1 hm0 his41 hcall;simp only[RX.o,rd,rdT,rdR] at hcall;rw[hkl] at h;have e1:=zA1 (K.length+1) most;have e2:=zMk (K.length+1) least;generalize hq1:(K.length+1==most)=q1 at *;generalize hq2:Nat.blt (K.length+1) least=q2 at *;generalize hlenT2:(t2::R2).length=lenT2 at *;have hlen2:(t2::(R2++[N])).length=lenT2+1:=by rw[← hlenT2];simp
        clear hNN hN;generalize (t::R).map Node.c=E0 at *;generalize hE1:(t2::R2).map Node.c=E1 at *;generalize hE2:(t2::(R2++[N])).map Node.c=E2 at *;generalize K.map intC=EK at *;generalize hl44:isW L i2 [44]=z44 at *;generalize hl41:isW L i2 [41]=z41 at *;cases z44 with
        |true =>
         have h41:z41=false:=hox rfl (by decide);rw[h41] at h his41;clear hnode hm0 hm1 hox;cases q1 with
         |true =>
          rw[if_pos (by simp)] at h;cases h;simp only[RX.o,rd,rdT,rdR,xG,hE1];clear hE1 hE2
          (with_reducible repeat' first|apply aA|refine aB ?_|refine aC ?_|refine aD ?_|(first|apply zB|apply zA|apply zC|apply zD)<;>intro hg<;>try with_unfolding_all cases hg;done|refine aE ?_|refine aF ?_|refine aG ?_|refine aH ?_ ?_<;>intro hv<;>try with_unfolding_all cases hv;done)
          refine aM ?_
          rfl
         |false =>
          rw[if_neg (by simp),if_pos rfl] at h;have hw3:IntKind.i64.wrap ((i2:Int)+1)=((i2+1:Nat):Int):=by rw[wrap64]<;>omega
          have hlt2:=yC hl44;have hpost:PX L g (.call op least most (K++[(a:Int)]) p) (i2+1) (d2'+1) (t2::R2)=some r∧g<f∧i2+1≤L.length∧(t2::R2).length+(L.length - (i2+1))≤4000000000∧(K++[(a:Int)]).length+(L.length - (i2+1))≤4000000000:=⟨h,by omega,by omega,by(rw[hlenT2];omega),by(rw[hkl];omega)⟩
          clear h hl44 hl41 hE2
          (with_reducible repeat' first|apply aA|refine aB ?_|refine aC ?_|refine aD ?_|(first|apply zB|apply zA|apply zC|apply zD)<;>intro hg<;>try with_unfolding_all cases hg;done|refine aE ?_|refine aF ?_|refine aG ?_|refine aH ?_ ?_<;>intro hv<;>try with_unfolding_all cases hv;done)
          rw[← hKm];subst hE1;exact zM ⟨g,i2+1,t2,R2,K++[(a:Int)]⟩ (by dsimp only;omega) ⟨hpost.1,by dsimp only;omega,hpost.2.2⟩ (by exact aTd)
        |false =>
         cases z41 with
         |true =>
          cases q2 with
          |true =>
           rw[if_pos (by simp)] at h;cases h;clear hnode hm0 hm1 hox;simp only[RX.o,rd,rdT,rdR,xG,hE1];clear hE1 hE2
           (with_reducible repeat' first|apply aA|refine aB ?_|refine aC ?_|refine aD ?_|(first|apply zB|apply zA|apply zC|apply zD)<;>intro hg<;>try with_unfolding_all cases hg;done|refine aE ?_|refine aF ?_|refine aG ?_|refine aH ?_ ?_<;>intro hv<;>try with_unfolding_all cases hv;done)
           refine aM ?_
           rfl
          |false =>
           rw[if_neg (by simp),if_neg (by simp),if_pos rfl] at h;have hm1:=hm1 (by have:=yC hl41;omega) rfl;have hdd:d2'+1 - 1=d2':=by omega
           rw[hdd] at h;cases h;have hw4:IntKind.i64.wrap (((d2'+1:Nat):Int) - 1)=(d2':Int):=by rw[wrap64]<;>omega
           clear hm0 hox;simp only[RX.o,rd,rdT,rdR,hE2];clear hE1 hE2 hl44 hl41
           (with_reducible repeat' first|apply aA|refine aB ?_|refine aC ?_|refine aD ?_|(first|apply zB|apply zA|apply zC|apply zD)<;>intro hg<;>try with_unfolding_all cases hg;done|refine aE ?_|refine aF ?_|refine aG ?_|refine aH ?_ ?_<;>intro hv<;>try with_unfolding_all cases hv;done)
           refine aJ ?_
           rfl
         |false =>
          rw[if_neg (by simp),if_neg (by simp),if_neg (by simp)] at h;cases h;have hm0:=hm0 rfl;clear hnode hm1 hox;simp only[RX.o,rd,rdT,rdR,xG,hE1];clear hE1 hE2
          (with_reducible repeat' first|apply aA|refine aB ?_|refine aC ?_|refine aD ?_|(first|apply zB|apply zA|apply zC|apply zD)<;>intro hg<;>try with_unfolding_all cases hg;done|refine aE ?_|refine aF ?_|refine aG ?_|refine aH ?_ ?_<;>intro hv<;>try with_unfolding_all cases hv;done)
          refine aM ?_
          rfl
    |false =>
     cases z41 with
     |true =>
      cases q2 with
      |true =>
       rw[if_pos (by simp)] at h;cases h;clear hnode hm0 hm1 hox;simp only[RX.o,rd,rdT,rdR,xG,hE1];clear hE1 hE2
       (with_reducible repeat' first|apply aA|refine aB ?_|refine aC ?_|refine aD ?_|(first|apply zB|apply zA|apply zC|apply zD)<;>intro hg<;>try with_unfolding_all cases hg;done|refine aE ?_|refine aF ?_|refine aG ?_|refine aH ?_ ?_<;>intro hv<;>try with_unfolding_all cases hv;done)
       refine aM ?_
       rfl
      |false =>
       rw[if_neg (by simp),if_neg (by simp),if_pos rfl] at h;have hm1:=hm1 (by have:=yC hl41;omega) rfl;have hdd:d2'+1 - 1=d2':=by omega
       rw[hdd] at h;cases h;have hw4:IntKind.i64.wrap (((d2'+1:Nat):Int) - 1)=(d2':Int):=by rw[wrap64]<;>omega
       clear hm0 hox;simp only[RX.o,rd,rdT,rdR,hE2];clear hE1 hE2 hl44 hl41
       (with_reducible repeat' first|apply aA|refine aB ?_|refine aC ?_|refine aD ?_|(first|apply zB|apply zA|apply zC|apply zD)<;>intro hg<;>try with_unfolding_all cases hg;done|refine aE ?_|refine aF ?_|refine aG ?_|refine aH ?_ ?_<;>intro hv<;>try with_unfolding_all cases hv;done)
       refine aJ ?_
       rfl
     |false =>
      rw[if_neg (by simp),if_neg (by simp),if_neg (by simp)] at h;cases h;have hm0:=hm0 rfl;clear hnode hm1 hox;simp only[RX.o,rd,rdT,rdR,xG,hE1];clear hE1 hE2
      (with_reducible repeat' first|apply aA|refine aB ?_|refine aC ?_|refine aD ?_|(first|apply zB|apply zA|apply zC|apply zD)<;>intro hg<;>try with_unfolding_all cases hg;done|refine aE ?_|refine aF ?_|refine aG ?_|refine aH ?_ ?_<;>intro hv<;>try with_unfolding_all cases hv;done)
      refine aM ?_
      rfl
 simp only[rd,rdT,rdR] at h1 h2 h3 ⊢;refine wO zHQ rfl ?_
 (simp only[zT,List.length_cons,List.length_nil,Nat.zero_add,Nat.reduceAdd];show W CC _ 74 (zE 258) _ _ _)
 generalize hE0:(t::R).map Node.c=E00 at *
 (with_reducible repeat' first|apply aA|refine aB ?_|refine aC ?_|refine aD ?_|(first|apply zB|apply zA|apply zC|apply zD)<;>intro hg<;>try with_unfolding_all cases hg;done|refine aE ?_|refine aF ?_|refine aG ?_|refine aH ?_ ?_<;>intro hv<;>try with_unfolding_all cases hv;done)
 clear h1 h2 h3 hii hii2 h4
 (refine aI ?_)
 subst hE0;cases hh:PX L g (.lev 0) i (d2'+1) (t::R) with
 |none=>rw[hh] at h;cases h
 |some rr =>
  have hk:=xQ _ _ _ _ _ _ hh hi hd trivial;have hcall:=hih g (by omega) i (d2'+1) (t::R) rr hh hi hd hB;rw[hl] at hcall;have hcall:Om CC 186 [.box 0 0,.t (.int .i64 0)] (rd l i (d2'+1) (t::R))=some (rr.o l):=hcall;rw[hh] at h;cases rr with
  |pan e i2 d2 T2 =>
   cases h;rcases T2 with _|⟨t2,R2⟩
   ·exact absurd rfl (kF (jM _ _ _ _ _ _ hh) (List.cons_ne_nil _ _))
   simp only[RX.o,rd,rdT,rdR,xG] at hcall ⊢;generalize (t::R).map Node.c=E0 at *;generalize (t2::R2).map Node.c=E1 at *
   (with_reducible repeat' first|apply aA|refine aB ?_|refine aC ?_|refine aD ?_|(first|apply zB|apply zA|apply zC|apply zD)<;>intro hg<;>try with_unfolding_all cases hg;done|refine aE ?_|refine aF ?_|refine aG ?_|refine aH ?_ ?_<;>intro hv<;>try with_unfolding_all cases hv;done)
   refine aM ?_
   rfl
  |ok a i2 d3 T2 =>
   dsimp only at h;obtain⟨k1,k2,k3,k4,k5⟩:=hk;simp only[Cmd.dt] at k3;subst k3;rcases T2 with _|⟨t2,R2⟩
   ·exact absurd k5 (by simp)
   have his44:=uC nl cl L i2 (d2'+1) (t2::R2) [44];have hm1:=zAE nl cl L i2 (d2'+1) (t2::R2) [41];have hm0:=zB0 nl cl L i2 (d2'+1) (t2::R2) [41];have his41:=uC nl cl L i2 (d2'+1) (t2::R2) [41];have hox:=@wU L i2 [44] [41];rw[hl] at his44 hm1 hm0 his41;have hkl:(K++[(a:Int)]).length=K.length+1:=by simp
   have hnode:=jO l (i2+1) d2' (t2::R2) op 0 0 [] [] (.sl true true []) ⟨false,false,K++[(a:Int)]⟩ p.1 p.2 (by omega);have hN:vD op VZ [] (K++[(a:Int)]) p=⟨op,⟨0,0,[]⟩,[],⟨false,false,K++[(a:Int)]⟩,p.1,p.2⟩:=by unfold vD;rw[if_neg (by simp)];rfl
   rw[hN] at h;generalize hNN:(⟨op,⟨0,0,[]⟩,[],⟨false,false,K++[(a:Int)]⟩,p.1,p.2⟩:Node)=N at *;rw[List.cons_append] at hnode h;have hKm:(K++[(a:Int)]).map intC=K.map intC++[[.int .i64 (a:Int)]]:=by rw[List.map_append];rfl
   simp only[Sl.t,hKm] at hnode;have hEl:(K.map intC++[[Tree.int .i64 (a:Int)]]).length=K.length+1:=by simp
   have hsm:decide ((K.map intC).length+1<4294967296)=true:=by(rw[decide_eq_true_eq,List.length_map];omega)
   have hlens:lens 1 (K.map intC)=true:=by unfold lens;rw[List.all_map];exact List.all_eq_true.2 fun x _=>rfl
   simp only[rd,rdT,rdR] at hnode his44 hm1 hm0 his41 hcall;simp only[RX.o,rd,rdT,rdR] at hcall;rw[hkl] at h;have e1:=zA1 (K.length+1) most;have e2:=zMk (K.length+1) least;generalize hq1:(K.length+1==most)=q1 at *;generalize hq2:Nat.blt (K.length+1) least=q2 at *;generalize hlenT2:(t2::R2).length=lenT2 at *;have hlen2:(t2::(R2++[N])).length=lenT2+1:=by rw[← hlenT2];simp
   clear hNN hN;generalize (t::R).map Node.c=E0 at *;generalize hE1:(t2::R2).map Node.c=E1 at *;generalize hE2:(t2::(R2++[N])).map Node.c=E2 at *;subst hK0;simp only[List.map_nil,List.nil_append,List.length_nil,Nat.zero_add] at hnode h hsm hEl hlens e1 e2 hq1 hq2 hKB hkl ⊢;clear hKm;generalize hl44:isW L i2 [44]=z44 at *;generalize hl41:isW L i2 [41]=z41 at *;cases z44 with
   |true =>
    have h41:z41=false:=hox rfl (by decide);rw[h41] at h his41;clear hnode hm0 hm1 hox;cases q1 with
    |true =>
     rw[if_pos (by simp)] at h;cases h;simp only[RX.o,rd,rdT,rdR,xG,hE1];clear hE1 hE2
     (with_reducible repeat' first|apply aA|refine aB ?_|refine aC ?_|refine aD ?_|(first|apply zB|apply zA|apply zC|apply zD)<;>intro hg<;>try with_unfolding_all cases hg;done|refine aE ?_|refine aF ?_|refine aG ?_|refine aH ?_ ?_<;>intro hv<;>try with_unfolding_all cases hv;done)
     refine aM ?_
     rfl
    |false =>
     rw[if_neg (by simp),if_pos rfl] at h;have hw3:IntKind.i64.wrap ((i2:Int)+1)=((i2+1:Nat):Int):=by rw[wrap64]<;>omega
     have hlt2:=yC hl44;have hpost:PX L g (.call op least most ([]++[(a:Int)]) p) (i2+1) (d2'+1) (t2::R2)=some r∧g<f∧i2+1≤L.length∧(t2::R2).length+(L.length - (i2+1))≤4000000000∧([]++[(a:Int)]).length+(L.length - (i2+1))≤4000000000:=⟨h,by omega,by omega,by(rw[hlenT2];omega),by(simp only[List.nil_append,List.length_cons,List.length_nil];omega)⟩
     clear h hl44 hl41 hE2
     (with_reducible repeat' first|apply aA|refine aB ?_|refine aC ?_|refine aD ?_|(first|apply zB|apply zA|apply zC|apply zD)<;>intro hg<;>try with_unfolding_all cases hg;done|refine aE ?_|refine aF ?_|refine aG ?_|refine aH ?_ ?_<;>intro hv<;>try with_unfolding_all cases hv;done)
     subst hE1;refine yS (α:=CallI) (fun x=>⟨[(0,.box 0 0),(4,.box 2 0),(5,.box 3 0),(7,.hs 4 0)],[.box [.t l,.t (.int .i64 (x.i:Int)),.t (.int .i64 ((d2'+1:Nat):Int)),.hs 1 0],.arr 8 0 false ((x.t::x.r).map Node.c),.box [.t (.int .u8 op),.t (.int .i64 (least:Int)),.t (.int .i64 (most:Int))],.box [.t (.int .i64 p.1),.t (.int .i64 p.2)],.arr 1 0 false (x.K.map intC)]⟩) (fun x=>x.g) (fun x=>PX L x.g (.call op least most x.K p) x.i (d2'+1) (x.t::x.r)=some r∧x.g<f∧x.i≤L.length∧(x.t::x.r).length+(L.length - x.i)≤4000000000∧x.K.length+(L.length - x.i)≤4000000000) ⟨g,i2+1,t2,R2,[(a:Int)]⟩ (by exact aTd) hpost ?_;clear hpost hcall hh his44 his41;rintro⟨g,i,t,R,K⟩ ⟨h,hg,hi,hB,hKB⟩;dsimp only at h hg hi hB hKB ⊢;rcases g with _|g
     ·simp [PX] at h
     rw[PX] at h;cases hh:PX L g (.lev 0) i (d2'+1) (t::R) with
     |none=>rw[hh] at h;cases h
     |some rr =>
      have hk:=xQ _ _ _ _ _ _ hh hi hd trivial;have hcall:=hih g (by omega) i (d2'+1) (t::R) rr hh hi hd hB;rw[hl] at hcall;have hcall:Om CC 186 [.box 0 0,.t (.int .i64 0)] (rd l i (d2'+1) (t::R))=some (rr.o l):=hcall;rw[hh] at h;cases rr with
      |pan e i2 d2 T2 =>
       cases h;rcases T2 with _|⟨t2,R2⟩
       ·exact absurd rfl (kF (jM _ _ _ _ _ _ hh) (List.cons_ne_nil _ _))
       simp only[RX.o,rd,rdT,rdR,xG] at hcall ⊢;generalize (t::R).map Node.c=E0 at *;generalize (t2::R2).map Node.c=E1 at *
       (with_reducible repeat' first|apply aA|refine aB ?_|refine aC ?_|refine aD ?_|(first|apply zB|apply zA|apply zC|apply zD)<;>intro hg<;>try with_unfolding_all cases hg;done|refine aE ?_|refine aF ?_|refine aG ?_|refine aH ?_ ?_<;>intro hv<;>try with_unfolding_all cases hv;done)
       refine aM ?_
       rfl
      |ok a i2 d3 T2 =>
       dsimp only at h;obtain⟨k1,k2,k3,k4,k5⟩:=hk;simp only[Cmd.dt] at k3;subst k3;rcases T2 with _|⟨t2,R2⟩
       ·exact absurd k5 (by simp)
       have his44:=uC nl cl L i2 (d2'+1) (t2::R2) [44];have hm1:=zAE nl cl L i2 (d2'+1) (t2::R2) [41];have hm0:=zB0 nl cl L i2 (d2'+1) (t2::R2) [41];have his41:=uC nl cl L i2 (d2'+1) (t2::R2) [41];have hox:=@wU L i2 [44] [41];rw[hl] at his44 hm1 hm0 his41;have hkl:(K++[(a:Int)]).length=K.length+1:=by simp
       have hnode:=jO l (i2+1) d2' (t2::R2) op 0 0 [] [] (.sl true true []) ⟨false,false,K++[(a:Int)]⟩ p.1 p.2 (by omega);have hN:vD op VZ [] (K++[(a:Int)]) p=⟨op,⟨0,0,[]⟩,[],⟨false,false,K++[(a:Int)]⟩,p.1,p.2⟩:=by unfold vD;rw[if_neg (by simp)];rfl
       rw[hN] at h;generalize hNN:(⟨op,⟨0,0,[]⟩,[],⟨false,false,K++[(a:Int)]⟩,p.1,p.2⟩:Node)=N at *;rw[List.cons_append] at hnode h;have hKm:(K++[(a:Int)]).map intC=K.map intC++[[.int .i64 (a:Int)]]:=by rw[List.map_append];rfl
       simp only[Sl.t,hKm] at hnode;have hEl:(K.map intC++[[Tree.int .i64 (a:Int)]]).length=K.length+1:=by simp
       have hsm:decide ((K.map intC).length+1<4294967296)=true:=by(rw[decide_eq_true_eq,List.length_map];omega)
       have hlens:lens 1 (K.map intC)=true:=by unfold lens;rw[List.all_map];exact List.all_eq_true.2 fun x _=>rfl
       simp only[rd,rdT,rdR] at hnode his44 hm1 hm0 his41 hcall;simp only[RX.o,rd,rdT,rdR] at hcall;rw[hkl] at h;have e1:=zA1 (K.length+1) most;have e2:=zMk (K.length+1) least;generalize hq1:(K.length+1==most)=q1 at *;generalize hq2:Nat.blt (K.length+1) least=q2 at *;generalize hlenT2:(t2::R2).length=lenT2 at *;have hlen2:(t2::(R2++[N])).length=lenT2+1:=by rw[← hlenT2];simp
       clear hNN hN;generalize (t::R).map Node.c=E0 at *;generalize hE1:(t2::R2).map Node.c=E1 at *;generalize hE2:(t2::(R2++[N])).map Node.c=E2 at *;generalize K.map intC=EK at *;generalize hl44:isW L i2 [44]=z44 at *;generalize hl41:isW L i2 [41]=z41 at *;cases z44 with
       |true =>
        have h41:z41=false:=hox rfl (by decide);rw[h41] at h his41;clear hnode hm0 hm1 hox;cases q1 with
        |true =>
         rw[if_pos (by simp)] at h;cases h;simp only[RX.o,rd,rdT,rdR,xG,hE1];clear hE1 hE2
         (with_reducible repeat' first|apply aA|refine aB ?_|refine aC ?_|refine aD ?_|(first|apply zB|apply zA|apply zC|apply zD)<;>intro hg<;>try with_unfolding_all cases hg;done|refine aE ?_|refine aF ?_|refine aG ?_|refine aH ?_ ?_<;>intro hv<;>try with_unfolding_all cases hv;done)
         refine aM ?_
         rfl
        |false =>
         rw[if_neg (by simp),if_pos rfl] at h;have hw3:IntKind.i64.wrap ((i2:Int)+1)=((i2+1:Nat):Int):=by rw[wrap64]<;>omega
         have hlt2:=yC hl44;have hpost:PX L g (.call op least most (K++[(a:Int)]) p) (i2+1) (d2'+1) (t2::R2)=some r∧g<f∧i2+1≤L.length∧(t2::R2).length+(L.length - (i2+1))≤4000000000∧(K++[(a:Int)]).length+(L.length - (i2+1))≤4000000000:=⟨h,by omega,by omega,by(rw[hlenT2];omega),by(rw[hkl];omega)⟩
         clear h hl44 hl41 hE2
         (with_reducible repeat' first|apply aA|refine aB ?_|refine aC ?_|refine aD ?_|(first|apply zB|apply zA|apply zC|apply zD)<;>intro hg<;>try with_unfolding_all cases hg;done|refine aE ?_|refine aF ?_|refine aG ?_|refine aH ?_ ?_<;>intro hv<;>try with_unfolding_all cases hv;done)
         rw[← hKm];subst hE1;exact zM ⟨g,i2+1,t2,R2,K++[(a:Int)]⟩ (by dsimp only;omega) ⟨hpost.1,by dsimp only;omega,hpost.2.2⟩ (by exact aTd)
       |false =>
        cases z41 with
        |true =>
         cases q2 with
         |true =>
          rw[if_pos (by simp)] at h;cases h;clear hnode hm0 hm1 hox;simp only[RX.o,rd,rdT,rdR,xG,hE1];clear hE1 hE2
          (with_reducible repeat' first|apply aA|refine aB ?_|refine aC ?_|refine aD ?_|(first|apply zB|apply zA|apply zC|apply zD)<;>intro hg<;>try with_unfolding_all cases hg;done|refine aE ?_|refine aF ?_|refine aG ?_|refine aH ?_ ?_<;>intro hv<;>try with_unfolding_all cases hv;done)
          refine aM ?_
          rfl
         |false =>
          rw[if_neg (by simp),if_neg (by simp),if_pos rfl] at h;have hm1:=hm1 (by have:=yC hl41;omega) rfl;have hdd:d2'+1 - 1=d2':=by omega
          rw[hdd] at h;cases h;have hw4:IntKind.i64.wrap (((d2'+1:Nat):Int) - 1)=(d2':Int):=by rw[wrap64]<;>omega
          clear hm0 hox;simp only[RX.o,rd,rdT,rdR,hE2];clear hE1 hE2 hl44 hl41
          (with_reducible repeat' first|apply aA|refine aB ?_|refine aC ?_|refine aD ?_|(first|apply zB|apply zA|apply zC|apply zD)<;>intro hg<;>try with_unfolding_all cases hg;done|refine aE ?_|refine aF ?_|refine aG ?_|refine aH ?_ ?_<;>intro hv<;>try with_unfolding_all cases hv;done)
          refine aJ ?_
          rfl
        |false =>
         rw[if_neg (by simp),if_neg (by simp),if_neg (by simp)] at h;cases h;have hm0:=hm0 rfl;clear hnode hm1 hox;simp only[RX.o,rd,rdT,rdR,xG,hE1];clear hE1 hE2
         (with_reducible repeat' first|apply aA|refine aB ?_|refine aC ?_|refine aD ?_|(first|apply zB|apply zA|apply zC|apply zD)<;>intro hg<;>try with_unfolding_all cases hg;done|refine aE ?_|refine aF ?_|refine aG ?_|refine aH ?_ ?_<;>intro hv<;>try with_unfolding_all cases hv;done)
         refine aM ?_
         rfl
   |false =>
    cases z41 with
    |true =>
     cases q2 with
     |true =>
      rw[if_pos (by simp)] at h;cases h;clear hnode hm0 hm1 hox;simp only[RX.o,rd,rdT,rdR,xG,hE1];clear hE1 hE2
      (with_reducible repeat' first|apply aA|refine aB ?_|refine aC ?_|refine aD ?_|(first|apply zB|apply zA|apply zC|apply zD)<;>intro hg<;>try with_unfolding_all cases hg;done|refine aE ?_|refine aF ?_|refine aG ?_|refine aH ?_ ?_<;>intro hv<;>try with_unfolding_all cases hv;done)
      refine aM ?_
      rfl
     |false =>
      rw[if_neg (by simp),if_neg (by simp),if_pos rfl] at h;have hm1:=hm1 (by have:=yC hl41;omega) rfl;have hdd:d2'+1 - 1=d2':=by omega
      rw[hdd] at h;cases h;have hw4:IntKind.i64.wrap (((d2'+1:Nat):Int) - 1)=(d2':Int):=by rw[wrap64]<;>omega
      clear hm0 hox;simp only[RX.o,rd,rdT,rdR,hE2];clear hE1 hE2 hl44 hl41
      (with_reducible repeat' first|apply aA|refine aB ?_|refine aC ?_|refine aD ?_|(first|apply zB|apply zA|apply zC|apply zD)<;>intro hg<;>try with_unfolding_all cases hg;done|refine aE ?_|refine aF ?_|refine aG ?_|refine aH ?_ ?_<;>intro hv<;>try with_unfolding_all cases hv;done)
      refine aJ ?_
      rfl
    |false =>
     rw[if_neg (by simp),if_neg (by simp),if_neg (by simp)] at h;cases h;have hm0:=hm0 rfl;clear hnode hm1 hox;simp only[RX.o,rd,rdT,rdR,xG,hE1];clear hE1 hE2
     (with_reducible repeat' first|apply aA|refine aB ?_|refine aC ?_|refine aD ?_|(first|apply zB|apply zA|apply zC|apply zD)<;>intro hg<;>try with_unfolding_all cases hg;done|refine aE ?_|refine aF ?_|refine aG ?_|refine aH ?_ ?_<;>intro hv<;>try with_unfolding_all cases hv;done)
     refine aM ?_
     rfl
end Go.Ab
