/- Lemmas. -/
import Derived.Test.YtchgjnkleakhoaaGreatDoorG08
set_option maxRecDepth 1000000
set_option maxHeartbeats 40000000
set_option linter.all false
namespace Go.Ab
open Go.Proofs
attribute [local irreducible] W RW RR
def zUp {nl cl:Bool} {L:List Tok} {i d:Nat} {T:List Node} (h:L.length≤i) :
  Om CC 249 [.box 0 0] (rd (.sl nl cl (L.map Tok.c)) i d T)=some ((RX.pan 4 i d T).o (.sl nl cl (L.map Tok.c))):=by
 have hd:decide ((i:Int) ≥ ((L.map Tok.c).length:Int))=true:=by simp;omega
 generalize L.map Tok.c=l at *
 (have F_:=c5 zF zG zQ zE (c5 zD zI zB zO (c5 zL zN zX zS (c5 yJ yK wP jC zBj))))
 rcases T with _|⟨t0,T0⟩
 all_goals simp only[RX.o,rd,rdT,rdR,yZ]<;>(try generalize (t0::T0).map Node.c=E0 at *)<;>refine wA zAo rfl ?_<;>(simp only[zV,List.length_cons,List.length_nil,Nat.zero_add,Nat.reduceAdd];show W CC _ 107 (zA 249) _ _ _)<;>(refine gA ?_)<;>(first|(refine aJ ?_;rfl)|(refine aM ?_;rfl))
def xaI:=c5 zF zG zQ zE (c5 zD zI zB zO (c5 zL zN zX zS (c5 yJ yK wP jC (c5 zBj wY jD zA2 (c5 qT zAb zBY zBZ zB0)))))
def zTs {nl cl:Bool} {L:List Tok} {i d:Nat} {T:List Node} {t:Tok} (ht:L[i]?=some t) (hi:i<9223372036854775806) (hT:T.length<4294967295) (hk:t.k=4∨t.k=5∨t.k=6) :
  Om CC 249 [.box 0 0] (rd (.sl nl cl (L.map Tok.c)) i d T)=some ((RX.ok T.length (i+1) d (T++[xK 1 t.v [] [] (t.line,t.col)])).o (.sl nl cl (L.map Tok.c))):=by
 have hlt:=getElem?_lt ht;have hd:decide ((i:Int) ≥ ((L.map Tok.c).length:Int))=false:=by simp;omega
 have hTk:=vE ht;have h4:=wI64 i (by omega);have hnode:=zB1 (.sl nl cl (L.map Tok.c)) (i+1) d T 1 (t.v).k (t.v).n (t.v).s [] (.sl true true []) ⟨true,true,[]⟩ t.line t.col hT;have hN:xK 1 t.v [] [] (t.line,t.col)=⟨1,⟨(t.v).k,(t.v).n,(t.v).s⟩,[],⟨true,true,[]⟩,t.line,t.col⟩:=rfl;rw[hN];clear hN;simp only[Sl.t,List.map_nil] at hnode;obtain⟨k,s,⟨vk,vn,vs⟩,tl,tc⟩:=t;generalize hNN:(⟨_,_,_,_,_,_⟩:Node)=N at *;clear hNN;generalize L.map Tok.c=l at *;dsimp only at *;generalize hlenT:T.length=lenT at *;rcases hk with hk|hk|hk<;>subst hk
 all_goals (have F_:=xaI)<;>rcases T with _|⟨t0,T0⟩<;>simp only[List.nil_append,List.cons_append,RX.o,rd,rdT,rdR,yZ] at hnode ⊢<;>clear hlenT<;>(try generalize (t0::T0).map Node.c=E0 at *)<;>(try generalize (t0::(T0++[N])).map Node.c=E1 at *)<;>(try generalize [N].map Node.c=E1 at *)<;>refine wA zAo rfl ?_<;>(simp only[zV,List.length_cons,List.length_nil,Nat.zero_add,Nat.reduceAdd];show W CC _ 107 (zA 249) _ _ _)<;>(repeat' first|refine gA ?_|refine gT ?_ ?_<;>intro hv<;>try cases hv;done|fail)<;>(first|(refine aJ ?_;rfl)|(refine aM ?_;rfl))
def zS7 {nl cl:Bool} {L:List Tok} {i d:Nat} {T:List Node} {t:Tok} (ht:L[i]?=some t) (hi:i<9223372036854775806) (hT:T.length<4294967295) (hk:t.k=2) :
  Om CC 249 [.box 0 0] (rd (.sl nl cl (L.map Tok.c)) i d T)=some ((RX.ok T.length (i+1) d (T++[xK 2 (⟨0,0,[]⟩:Val) t.s [] (t.line,t.col)])).o (.sl nl cl (L.map Tok.c))):=by
 have hlt:=getElem?_lt ht;have hd:decide ((i:Int) ≥ ((L.map Tok.c).length:Int))=false:=by simp;omega
 have hTk:=vE ht;have h4:=wI64 i (by omega);have hnode:=zB1 (.sl nl cl (L.map Tok.c)) (i+1) d T 2 ((⟨0,0,[]⟩:Val)).k ((⟨0,0,[]⟩:Val)).n ((⟨0,0,[]⟩:Val)).s t.s (.sl true true []) ⟨true,true,[]⟩ t.line t.col hT;have hN:xK 2 (⟨0,0,[]⟩:Val) t.s [] (t.line,t.col)=⟨2,⟨((⟨0,0,[]⟩:Val)).k,((⟨0,0,[]⟩:Val)).n,((⟨0,0,[]⟩:Val)).s⟩,t.s,⟨true,true,[]⟩,t.line,t.col⟩:=rfl;rw[hN];clear hN;simp only[Sl.t,List.map_nil] at hnode;obtain⟨k,s,⟨vk,vn,vs⟩,tl,tc⟩:=t;generalize hNN:(⟨_,_,_,_,_,_⟩:Node)=N at *;clear hNN;generalize L.map Tok.c=l at *;dsimp only at *;generalize hlenT:T.length=lenT at *;subst hk
 all_goals (have F_:=xaI)<;>rcases T with _|⟨t0,T0⟩<;>simp only[List.nil_append,List.cons_append,RX.o,rd,rdT,rdR,yZ] at hnode ⊢<;>clear hlenT<;>(try generalize (t0::T0).map Node.c=E0 at *)<;>(try generalize (t0::(T0++[N])).map Node.c=E1 at *)<;>(try generalize [N].map Node.c=E1 at *)<;>refine wA zAo rfl ?_<;>(simp only[zV,List.length_cons,List.length_nil,Nat.zero_add,Nat.reduceAdd];show W CC _ 107 (zA 249) _ _ _)<;>(repeat' first|refine gA ?_|refine gT ?_ ?_<;>intro hv<;>try cases hv;done|fail)<;>(first|(refine aJ ?_;rfl)|(refine aM ?_;rfl))
def zSu {nl cl:Bool} {L:List Tok} {i d:Nat} {T:List Node} {t:Tok} (ht:L[i]?=some t) (hi:i<9223372036854775806) (hT:T.length<4294967295) (hk:t.k=3) :
  Om CC 249 [.box 0 0] (rd (.sl nl cl (L.map Tok.c)) i d T)=some ((RX.ok T.length (i+1) d (T++[xK 3 (⟨0,0,[]⟩:Val) [] [] (t.line,t.col)])).o (.sl nl cl (L.map Tok.c))):=by
 have hlt:=getElem?_lt ht;have hd:decide ((i:Int) ≥ ((L.map Tok.c).length:Int))=false:=by simp;omega
 have hTk:=vE ht;have h4:=wI64 i (by omega);have hnode:=zB1 (.sl nl cl (L.map Tok.c)) (i+1) d T 3 ((⟨0,0,[]⟩:Val)).k ((⟨0,0,[]⟩:Val)).n ((⟨0,0,[]⟩:Val)).s [] (.sl true true []) ⟨true,true,[]⟩ t.line t.col hT;have hN:xK 3 (⟨0,0,[]⟩:Val) [] [] (t.line,t.col)=⟨3,⟨((⟨0,0,[]⟩:Val)).k,((⟨0,0,[]⟩:Val)).n,((⟨0,0,[]⟩:Val)).s⟩,[],⟨true,true,[]⟩,t.line,t.col⟩:=rfl;rw[hN];clear hN;simp only[Sl.t,List.map_nil] at hnode;obtain⟨k,s,⟨vk,vn,vs⟩,tl,tc⟩:=t;generalize hNN:(⟨_,_,_,_,_,_⟩:Node)=N at *;clear hNN;generalize L.map Tok.c=l at *;dsimp only at *;generalize hlenT:T.length=lenT at *;subst hk
 all_goals (have F_:=xaI)<;>rcases T with _|⟨t0,T0⟩<;>simp only[List.nil_append,List.cons_append,RX.o,rd,rdT,rdR,yZ] at hnode ⊢<;>clear hlenT<;>(try generalize (t0::T0).map Node.c=E0 at *)<;>(try generalize (t0::(T0++[N])).map Node.c=E1 at *)<;>(try generalize [N].map Node.c=E1 at *)<;>refine wA zAo rfl ?_<;>(simp only[zV,List.length_cons,List.length_nil,Nat.zero_add,Nat.reduceAdd];show W CC _ 107 (zA 249) _ _ _)<;>(repeat' first|refine gA ?_|refine gT ?_ ?_<;>intro hv<;>try cases hv;done|fail)<;>(first|(refine aJ ?_;rfl)|(refine aM ?_;rfl))
def zHl {nl cl:Bool} {L:List Tok} {i d:Nat} {T:List Node} {t:Tok} {r:RX} {op:Int} {least most:Nat} (ht:L[i]?=some t) (hk:t.k=1) (hc:wV t.s jZ=some (op,least,most)) (hg:T≠[]→r.T≠[])
  (h:Om CC 279 [.box 0 0,.t (.agg [.int .u8 op,.int .i64 (least:Int),.int .i64 (most:Int)]),.t (.agg [.int .i64 t.line,.int .i64 t.col])] (rd (.sl nl cl (L.map Tok.c)) i d T)=some (r.o (.sl nl cl (L.map Tok.c)))) :
  Om CC 249 [.box 0 0] (rd (.sl nl cl (L.map Tok.c)) i d T)=some (r.o (.sl nl cl (L.map Tok.c))):=by
 have hlt:=getElem?_lt ht;have hd0:decide ((i:Int) ≥ ((L.map Tok.c).length:Int))=false:=by simp;omega
 have hTk:=vE ht;have h1:=zIi t.s;rw[hc] at h1;obtain⟨x,b,h2⟩:∃(x:Val) (b:Bool),Om CC 277 [.t (.str t.s)] []=some (.val (.tup [.t (.agg [.int .u8 x.k,.int .i64 x.n,.str x.s]),.t (.bool b)]),[]):=by
  rw[zL5 t.s];cases wV t.s zB8 with
  |none=>exact⟨⟨0,0,[]⟩,false,rfl⟩
  |some x=>exact⟨x,true,rfl⟩
 obtain⟨xk,xn,xs⟩:=x;clear hc;obtain⟨k,s,⟨vk,vn,vs⟩,tl,tc⟩:=t;dsimp only at *;subst hk;generalize L.map Tok.c=l at *
 (have F_:=xaI)
 rcases T with _|⟨t0,T0⟩<;>rcases r with ⟨a,i',d',T'⟩|⟨e,i',d',T'⟩<;>rcases T' with _|⟨t1,T1⟩<;>first|exact absurd rfl (hg (List.cons_ne_nil _ _))|skip
 all_goals simp only[RX.o,rd,rdT,rdR,yZ] at h ⊢<;>(try generalize (t0::T0).map Node.c=E0 at *)<;>(try generalize (t1::T1).map Node.c=E1 at *)<;>refine wA zAo rfl ?_<;>(simp only[zV,List.length_cons,List.length_nil,Nat.zero_add,Nat.reduceAdd];show W CC _ 107 (zA 249) _ _ _)<;>(repeat' first|refine gA ?_|refine gT ?_ ?_<;>intro hv<;>try cases hv;done|fail)<;>(first|(refine aJ ?_;rfl)|(refine aM ?_;rfl))
def zSe {nl cl:Bool} {L:List Tok} {i d:Nat} {T:List Node} {t:Tok} {v:Val} (ht:L[i]?=some t) (hi:i<9223372036854775806) (hT:T.length<4294967295) (hk:t.k=1) (hc:wV t.s jZ=none) (hv:wV t.s zB8=some v) :
  Om CC 249 [.box 0 0] (rd (.sl nl cl (L.map Tok.c)) i d T)=some ((RX.ok T.length (i+1) d (T++[xK 1 v [] [] (t.line,t.col)])).o (.sl nl cl (L.map Tok.c))):=by
 have hlt:=getElem?_lt ht;have hd0:decide ((i:Int) ≥ ((L.map Tok.c).length:Int))=false:=by simp;omega
 have hTk:=vE ht;have h4:=wI64 i (by omega);have h1:=zIi t.s;rw[hc] at h1;have h2:=zL5 t.s;rw[hv] at h2;clear hc hv;have hnode:=zB1 (.sl nl cl (L.map Tok.c)) (i+1) d T 1 v.k v.n v.s [] (.sl true true []) ⟨true,true,[]⟩ t.line t.col hT;have hN:xK 1 v [] [] (t.line,t.col)=⟨1,⟨v.k,v.n,v.s⟩,[],⟨true,true,[]⟩,t.line,t.col⟩:=rfl;rw[hN];clear hN;simp only[Sl.t,List.map_nil] at hnode;obtain⟨k,s,⟨vk,vn,vs⟩,tl,tc⟩:=t;obtain⟨xk,xn,xs⟩:=v;generalize hNN:(⟨_,_,_,_,_,_⟩:Node)=N at *;clear hNN;generalize L.map Tok.c=l at *;dsimp only at *;subst hk;generalize hlenT:T.length=lenT at *
 (have F_:=xaI)
 rcases T with _|⟨t0,T0⟩
 all_goals simp only[List.nil_append,List.cons_append,RX.o,rd,rdT,rdR,yZ] at hnode ⊢<;>clear hlenT<;>(try generalize (t0::T0).map Node.c=E0 at *)<;>(try generalize (t0::(T0++[N])).map Node.c=E1 at *)<;>(try generalize [N].map Node.c=E1 at *)<;>refine wA zAo rfl ?_<;>(simp only[zV,List.length_cons,List.length_nil,Nat.zero_add,Nat.reduceAdd];show W CC _ 107 (zA 249) _ _ _)<;>(repeat' first|refine gA ?_|refine gT ?_ ?_<;>intro hv<;>try cases hv;done|fail)<;>(first|(refine aJ ?_;rfl)|(refine aM ?_;rfl))
def zOf {nl cl:Bool} {L:List Tok} {i d:Nat} {T:List Node} {t:Tok} (ht:L[i]?=some t) (hk:t.k=1) (hc:wV t.s jZ=none) (hv:wV t.s zB8=none) :
  Om CC 249 [.box 0 0] (rd (.sl nl cl (L.map Tok.c)) i d T)=some ((RX.pan 4 i d T).o (.sl nl cl (L.map Tok.c))):=by
 have hlt:=getElem?_lt ht;have hd0:decide ((i:Int) ≥ ((L.map Tok.c).length:Int))=false:=by simp;omega
 have hTk:=vE ht;have h1:=zIi t.s;rw[hc] at h1;have h2:=zL5 t.s;rw[hv] at h2;clear hc hv;obtain⟨k,s,⟨vk,vn,vs⟩,tl,tc⟩:=t;generalize L.map Tok.c=l at *;dsimp only at *;subst hk
 (have F_:=xaI)
 rcases T with _|⟨t0,T0⟩
 all_goals simp only[RX.o,rd,rdT,rdR,yZ]<;>(try generalize (t0::T0).map Node.c=E0 at *)<;>refine wA zAo rfl ?_<;>(simp only[zV,List.length_cons,List.length_nil,Nat.zero_add,Nat.reduceAdd];show W CC _ 107 (zA 249) _ _ _)<;>(repeat' first|refine gA ?_|refine gT ?_ ?_<;>intro hv<;>try cases hv;done|fail)<;>(first|(refine aJ ?_;rfl)|(refine aM ?_;rfl))
def zRs {nl cl:Bool} {L:List Tok} {i d i' d' a:Nat} {T T':List Node} {t:Tok} {e:Int} (ht:L[i]?=some t) (hi:i<9223372036854775806) (hk:t.k≠4∧t.k≠5∧t.k≠6∧t.k≠2∧t.k≠3∧t.k≠1) (hw:isW L i [40]=false) :
  Om CC 249 [.box 0 0] (rd (.sl nl cl (L.map Tok.c)) i d T)=some ((RX.pan 4 i d T).o (.sl nl cl (L.map Tok.c))):=by
 have hlt:=getElem?_lt ht;have hd0:decide ((i:Int) ≥ ((L.map Tok.c).length:Int))=false:=by simp;omega
 have hTk:=vE ht;have n4:(t.k==4)=false:=by simp;omega
 have n5:(t.k==5)=false:=by simp;omega
 have n6:(t.k==6)=false:=by simp;omega
 have n2:(t.k==2)=false:=by simp;omega
 have n3:(t.k==3)=false:=by simp;omega
 have n1:(t.k==1)=false:=by simp;omega
 clear hk;have h1:=kL nl cl L i d T [40];have h2:=zHw nl cl L i d T [40] hw;rw[hw] at h1;clear hw;generalize hl:Tree.sl nl cl (L.map Tok.c)=ll at *;subst hl;obtain⟨k,s,⟨vk,vn,vs⟩,tl,tc⟩:=t;generalize L.map Tok.c=l at *;dsimp only at *
 (have F_:=xaI)
 rcases T with _|⟨t0,T0⟩
 all_goals simp only[RX.o,rd,rdT,rdR,yZ] at h1 h2 ⊢<;>(try generalize (t0::T0).map Node.c=E0 at *)<;>(try generalize (t1::T1).map Node.c=E1 at *)<;>refine wA zAo rfl ?_<;>(simp only[zV,List.length_cons,List.length_nil,Nat.zero_add,Nat.reduceAdd];show W CC _ 107 (zA 249) _ _ _)<;>(refine gA ?_)<;>(first|(refine aJ ?_;rfl)|(refine aM ?_;rfl))
def zRC {nl cl:Bool} {L:List Tok} {i d i' d' a:Nat} {T T':List Node} {t:Tok} {e:Int} (ht:L[i]?=some t) (hi:i<9223372036854775806) (hk:t.k≠4∧t.k≠5∧t.k≠6∧t.k≠2∧t.k≠3∧t.k≠1) (hw:isW L i [40]=true) (hd:d=12) :
  Om CC 249 [.box 0 0] (rd (.sl nl cl (L.map Tok.c)) i d T)=some ((RX.pan 12 i d T).o (.sl nl cl (L.map Tok.c))):=by
 have hlt:=getElem?_lt ht;have hd0:decide ((i:Int) ≥ ((L.map Tok.c).length:Int))=false:=by simp;omega
 have hTk:=vE ht;have n4:(t.k==4)=false:=by simp;omega
 have n5:(t.k==5)=false:=by simp;omega
 have n6:(t.k==6)=false:=by simp;omega
 have n2:(t.k==2)=false:=by simp;omega
 have n3:(t.k==3)=false:=by simp;omega
 have n1:(t.k==1)=false:=by simp;omega
 clear hk;subst hd;have h1:=kL nl cl L i 12 T [40];have h2:=zJ1 (.sl nl cl (L.map Tok.c)) i T;rw[hw] at h1;clear hw;generalize hl:Tree.sl nl cl (L.map Tok.c)=ll at *;subst hl;obtain⟨k,s,⟨vk,vn,vs⟩,tl,tc⟩:=t;generalize L.map Tok.c=l at *;dsimp only at *
 (have F_:=xaI)
 rcases T with _|⟨t0,T0⟩
 all_goals simp only[RX.o,rd,rdT,rdR,yZ] at h1 h2 ⊢<;>(try generalize (t0::T0).map Node.c=E0 at *)<;>(try generalize (t1::T1).map Node.c=E1 at *)<;>refine wA zAo rfl ?_<;>(simp only[zV,List.length_cons,List.length_nil,Nat.zero_add,Nat.reduceAdd];show W CC _ 107 (zA 249) _ _ _)<;>(refine gA ?_)<;>(first|(refine aJ ?_;rfl)|(refine aM ?_;rfl))
def zSU {nl cl:Bool} {L:List Tok} {i d i' d' a:Nat} {T T':List Node} {t:Tok} {e:Int} (ht:L[i]?=some t) (hi:i<9223372036854775806) (hk:t.k≠4∧t.k≠5∧t.k≠6∧t.k≠2∧t.k≠3∧t.k≠1) (hw:isW L i [40]=true) (hd:d<12) (hg:T≠[]→T'≠[]) (h:Om CC 198 [.box 0 0,.t (.int .i64 0)] (rd (.sl nl cl (L.map Tok.c)) (i+1) (d+1) T)=some ((RX.pan e i' d' T').o (.sl nl cl (L.map Tok.c)))) :
  Om CC 249 [.box 0 0] (rd (.sl nl cl (L.map Tok.c)) i d T)=some ((RX.pan e i' d' T').o (.sl nl cl (L.map Tok.c))):=by
 have hlt:=getElem?_lt ht;have hd0:decide ((i:Int) ≥ ((L.map Tok.c).length:Int))=false:=by simp;omega
 have hTk:=vE ht;have n4:(t.k==4)=false:=by simp;omega
 have n5:(t.k==5)=false:=by simp;omega
 have n6:(t.k==6)=false:=by simp;omega
 have n2:(t.k==2)=false:=by simp;omega
 have n3:(t.k==3)=false:=by simp;omega
 have n1:(t.k==1)=false:=by simp;omega
 clear hk;have h1:=kL nl cl L i d T [40];have h2:=zD3 (.sl nl cl (L.map Tok.c)) i d T hd;have h3:=zDZ nl cl L i (d+1) T [40] (by omega) hw;rw[hw] at h1;clear hw;generalize hl:Tree.sl nl cl (L.map Tok.c)=ll at *;subst hl;obtain⟨k,s,⟨vk,vn,vs⟩,tl,tc⟩:=t;generalize L.map Tok.c=l at *;dsimp only at *
 (have F_:=xaI)
 rcases T with _|⟨t0,T0⟩<;>rcases T' with _|⟨t1,T1⟩<;>first|exact absurd rfl (hg (List.cons_ne_nil _ _))|skip
 all_goals simp only[RX.o,rd,rdT,rdR,yZ] at h h1 h2 h3 ⊢<;>(try generalize (t0::T0).map Node.c=E0 at *)<;>(try generalize (t1::T1).map Node.c=E1 at *)<;>refine wA zAo rfl ?_<;>(simp only[zV,List.length_cons,List.length_nil,Nat.zero_add,Nat.reduceAdd];show W CC _ 107 (zA 249) _ _ _)<;>(refine gA ?_)<;>(first|(refine aJ ?_;rfl)|(refine aM ?_;rfl))
def zR2 {nl cl:Bool} {L:List Tok} {i d i' d' a:Nat} {T T':List Node} {t:Tok} {e:Int} (ht:L[i]?=some t) (hi:i<9223372036854775806) (hk:t.k≠4∧t.k≠5∧t.k≠6∧t.k≠2∧t.k≠3∧t.k≠1) (hw:isW L i [40]=true) (hd:d<12) (hg:T≠[]→T'≠[]) (h:Om CC 198 [.box 0 0,.t (.int .i64 0)] (rd (.sl nl cl (L.map Tok.c)) (i+1) (d+1) T)=some ((RX.ok a i' (d+1) T').o (.sl nl cl (L.map Tok.c)))) (hw2:isW L i' [41]=false) :
  Om CC 249 [.box 0 0] (rd (.sl nl cl (L.map Tok.c)) i d T)=some ((RX.pan 4 i' (d+1) T').o (.sl nl cl (L.map Tok.c))):=by
 have hlt:=getElem?_lt ht;have hd0:decide ((i:Int) ≥ ((L.map Tok.c).length:Int))=false:=by simp;omega
 have hTk:=vE ht;have n4:(t.k==4)=false:=by simp;omega
 have n5:(t.k==5)=false:=by simp;omega
 have n6:(t.k==6)=false:=by simp;omega
 have n2:(t.k==2)=false:=by simp;omega
 have n3:(t.k==3)=false:=by simp;omega
 have n1:(t.k==1)=false:=by simp;omega
 clear hk;have h1:=kL nl cl L i d T [40];have h2:=zD3 (.sl nl cl (L.map Tok.c)) i d T hd;have h3:=zDZ nl cl L i (d+1) T [40] (by omega) hw;rw[hw] at h1;clear hw;have h5:=zHw nl cl L i' (d+1) T' [41] hw2;generalize hl:Tree.sl nl cl (L.map Tok.c)=ll at *;subst hl;obtain⟨k,s,⟨vk,vn,vs⟩,tl,tc⟩:=t;generalize L.map Tok.c=l at *;dsimp only at *
 (have F_:=xaI)
 rcases T with _|⟨t0,T0⟩<;>rcases T' with _|⟨t1,T1⟩<;>first|exact absurd rfl (hg (List.cons_ne_nil _ _))|skip
 all_goals simp only[RX.o,rd,rdT,rdR,yZ] at h h1 h2 h3 h5 ⊢<;>(try generalize (t0::T0).map Node.c=E0 at *)<;>(try generalize (t1::T1).map Node.c=E1 at *)<;>refine wA zAo rfl ?_<;>(simp only[zV,List.length_cons,List.length_nil,Nat.zero_add,Nat.reduceAdd];show W CC _ 107 (zA 249) _ _ _)<;>(refine gA ?_)<;>(first|(refine aJ ?_;rfl)|(refine aM ?_;rfl))
def zSV {nl cl:Bool} {L:List Tok} {i d i' d' a:Nat} {T T':List Node} {t:Tok} {e:Int} (ht:L[i]?=some t) (hi:i<9223372036854775806) (hk:t.k≠4∧t.k≠5∧t.k≠6∧t.k≠2∧t.k≠3∧t.k≠1) (hw:isW L i [40]=true) (hd:d<12) (hg:T≠[]→T'≠[]) (h:Om CC 198 [.box 0 0,.t (.int .i64 0)] (rd (.sl nl cl (L.map Tok.c)) (i+1) (d+1) T)=some ((RX.ok a i' (d+1) T').o (.sl nl cl (L.map Tok.c)))) (hw2:isW L i' [41]=true) (hi2:i'<9223372036854775807) :
  Om CC 249 [.box 0 0] (rd (.sl nl cl (L.map Tok.c)) i d T)=some ((RX.ok a (i'+1) d T').o (.sl nl cl (L.map Tok.c))):=by
 have hlt:=getElem?_lt ht;have hd0:decide ((i:Int) ≥ ((L.map Tok.c).length:Int))=false:=by simp;omega
 have hTk:=vE ht;have n4:(t.k==4)=false:=by simp;omega
 have n5:(t.k==5)=false:=by simp;omega
 have n6:(t.k==6)=false:=by simp;omega
 have n2:(t.k==2)=false:=by simp;omega
 have n3:(t.k==3)=false:=by simp;omega
 have n1:(t.k==1)=false:=by simp;omega
 clear hk;have h1:=kL nl cl L i d T [40];have h2:=zD3 (.sl nl cl (L.map Tok.c)) i d T hd;have h3:=zDZ nl cl L i (d+1) T [40] (by omega) hw;rw[hw] at h1;clear hw;have h5:=zDZ nl cl L i' (d+1) T' [41] hi2 hw2;have h6:IntKind.i64.wrap (((d+1:Nat):Int) - 1)=(d:Int):=by rw[wrap64]<;>omega
 generalize hl:Tree.sl nl cl (L.map Tok.c)=ll at *;subst hl;obtain⟨k,s,⟨vk,vn,vs⟩,tl,tc⟩:=t;generalize L.map Tok.c=l at *;dsimp only at *
 (have F_:=xaI)
 rcases T with _|⟨t0,T0⟩<;>rcases T' with _|⟨t1,T1⟩<;>first|exact absurd rfl (hg (List.cons_ne_nil _ _))|skip
 all_goals simp only[RX.o,rd,rdT,rdR,yZ] at h h1 h2 h3 h5 ⊢<;>(try generalize (t0::T0).map Node.c=E0 at *)<;>(try generalize (t1::T1).map Node.c=E1 at *)<;>refine wA zAo rfl ?_<;>(simp only[zV,List.length_cons,List.length_nil,Nat.zero_add,Nat.reduceAdd];show W CC _ 107 (zA 249) _ _ _)<;>(refine gA ?_)<;>(first|(refine aJ ?_;rfl)|(refine aM ?_;rfl))
end Go.Ab
