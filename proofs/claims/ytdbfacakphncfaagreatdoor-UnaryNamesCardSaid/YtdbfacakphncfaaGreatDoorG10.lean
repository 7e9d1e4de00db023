/- Lemmas. -/
import Derived.Test.YtdbfacakphncfaaGreatDoorG08
set_option maxRecDepth 1000000
set_option maxHeartbeats 40000000
set_option linter.all false
namespace Go.Ab
open Go.Proofs
attribute [local irreducible] W RW RR
def zUC {nl cl:Bool} {L:List Tok} {i d:Nat} {T:List Node} (h:L.length≤i) :
  Om CC 230 [.box 0 0] (rd (.sl nl cl (L.map Tok.c)) i d T)=some ((RX.pan 4 i d T).o (.sl nl cl (L.map Tok.c))):=by
 have hd:decide ((i:Int) ≥ ((L.map Tok.c).length:Int))=true:=by simp;omega
 generalize L.map Tok.c=l at *
 (have F_:=c5 zF zG zP zE (c5 zC zB zO zK (c5 zV zU zM zI (c5 yM yL wP kF zA6))))
 rcases T with _|⟨t0,T0⟩
 all_goals simp only[RX.o,rd,rdT,rdR,xD]<;>(try generalize (t0::T0).map Node.c=E0 at *)<;>refine xZ jT rfl ?_<;>(simp only[zT,List.length_cons,List.length_nil,Nat.zero_add,Nat.reduceAdd];show W CC _ 107 (zA 230) _ _ _)<;>(refine gA ?_)<;>(first|(refine aJ ?_;rfl)|(refine aM ?_;rfl))
def xaI:=c5 zF zG zP zE (c5 zC zB zO zK (c5 zV zU zM zI (c5 yM yL wP kF (c5 zA6 vA kG zAr (c5 qH jC zBn zBH zBC)))))
def zUI {nl cl:Bool} {L:List Tok} {i d:Nat} {T:List Node} {t:Tok} (ht:L[i]?=some t) (hi:i<9223372036854775806) (hT:T.length<4294967295) (hk:t.k=4∨t.k=5∨t.k=6) :
  Om CC 230 [.box 0 0] (rd (.sl nl cl (L.map Tok.c)) i d T)=some ((RX.ok T.length (i+1) d (T++[xL 1 t.v [] [] (t.line,t.col)])).o (.sl nl cl (L.map Tok.c))):=by
 have he:=getElem?_lt ht;have hd:decide ((i:Int) ≥ ((L.map Tok.c).length:Int))=false:=by simp;omega
 have hf:=vF ht;have h4:=wI64 i (by omega);have ha:=zBO (.sl nl cl (L.map Tok.c)) (i+1) d T 1 (t.v).k (t.v).n (t.v).s [] (.sl true true []) ⟨true,true,[]⟩ t.line t.col hT;have hN:xL 1 t.v [] [] (t.line,t.col)=⟨1,⟨(t.v).k,(t.v).n,(t.v).s⟩,[],⟨true,true,[]⟩,t.line,t.col⟩:=rfl;rw[hN];clear hN;simp only[Sl.t,List.map_nil] at ha;obtain⟨k,s,⟨vk,vn,vs⟩,tl,tc⟩:=t;generalize hh:(⟨_,_,_,_,_,_⟩:Node)=N at *;clear hh;generalize L.map Tok.c=l at *;dsimp only at *;generalize hb:T.length=lenT at *;rcases hk with hk|hk|hk<;>subst hk
 all_goals (have F_:=xaI)<;>rcases T with _|⟨t0,T0⟩<;>simp only[List.nil_append,List.cons_append,RX.o,rd,rdT,rdR,xD] at ha ⊢<;>clear hb<;>(try generalize (t0::T0).map Node.c=E0 at *)<;>(try generalize (t0::(T0++[N])).map Node.c=E1 at *)<;>(try generalize [N].map Node.c=E1 at *)<;>refine xZ jT rfl ?_<;>(simp only[zT,List.length_cons,List.length_nil,Nat.zero_add,Nat.reduceAdd];show W CC _ 107 (zA 230) _ _ _)<;>(repeat' first|refine gA ?_|refine gT ?_ ?_<;>intro hv<;>try cases hv;done|fail)<;>(first|(refine aJ ?_;rfl)|(refine aM ?_;rfl))
def zVd {nl cl:Bool} {L:List Tok} {i d:Nat} {T:List Node} {t:Tok} (ht:L[i]?=some t) (hi:i<9223372036854775806) (hT:T.length<4294967295) (hk:t.k=2) :
  Om CC 230 [.box 0 0] (rd (.sl nl cl (L.map Tok.c)) i d T)=some ((RX.ok T.length (i+1) d (T++[xL 2 (⟨0,0,[]⟩:Val) t.s [] (t.line,t.col)])).o (.sl nl cl (L.map Tok.c))):=by
 have he:=getElem?_lt ht;have hd:decide ((i:Int) ≥ ((L.map Tok.c).length:Int))=false:=by simp;omega
 have hf:=vF ht;have h4:=wI64 i (by omega);have ha:=zBO (.sl nl cl (L.map Tok.c)) (i+1) d T 2 ((⟨0,0,[]⟩:Val)).k ((⟨0,0,[]⟩:Val)).n ((⟨0,0,[]⟩:Val)).s t.s (.sl true true []) ⟨true,true,[]⟩ t.line t.col hT;have hN:xL 2 (⟨0,0,[]⟩:Val) t.s [] (t.line,t.col)=⟨2,⟨((⟨0,0,[]⟩:Val)).k,((⟨0,0,[]⟩:Val)).n,((⟨0,0,[]⟩:Val)).s⟩,t.s,⟨true,true,[]⟩,t.line,t.col⟩:=rfl;rw[hN];clear hN;simp only[Sl.t,List.map_nil] at ha;obtain⟨k,s,⟨vk,vn,vs⟩,tl,tc⟩:=t;generalize hh:(⟨_,_,_,_,_,_⟩:Node)=N at *;clear hh;generalize L.map Tok.c=l at *;dsimp only at *;generalize hb:T.length=lenT at *;subst hk
 all_goals (have F_:=xaI)<;>rcases T with _|⟨t0,T0⟩<;>simp only[List.nil_append,List.cons_append,RX.o,rd,rdT,rdR,xD] at ha ⊢<;>clear hb<;>(try generalize (t0::T0).map Node.c=E0 at *)<;>(try generalize (t0::(T0++[N])).map Node.c=E1 at *)<;>(try generalize [N].map Node.c=E1 at *)<;>refine xZ jT rfl ?_<;>(simp only[zT,List.length_cons,List.length_nil,Nat.zero_add,Nat.reduceAdd];show W CC _ 107 (zA 230) _ _ _)<;>(repeat' first|refine gA ?_|refine gT ?_ ?_<;>intro hv<;>try cases hv;done|fail)<;>(first|(refine aJ ?_;rfl)|(refine aM ?_;rfl))
def zR6 {nl cl:Bool} {L:List Tok} {i d:Nat} {T:List Node} {t:Tok} (ht:L[i]?=some t) (hi:i<9223372036854775806) (hT:T.length<4294967295) (hk:t.k=3) :
  Om CC 230 [.box 0 0] (rd (.sl nl cl (L.map Tok.c)) i d T)=some ((RX.ok T.length (i+1) d (T++[xL 3 (⟨0,0,[]⟩:Val) [] [] (t.line,t.col)])).o (.sl nl cl (L.map Tok.c))):=by
 have he:=getElem?_lt ht;have hd:decide ((i:Int) ≥ ((L.map Tok.c).length:Int))=false:=by simp;omega
 have hf:=vF ht;have h4:=wI64 i (by omega);have ha:=zBO (.sl nl cl (L.map Tok.c)) (i+1) d T 3 ((⟨0,0,[]⟩:Val)).k ((⟨0,0,[]⟩:Val)).n ((⟨0,0,[]⟩:Val)).s [] (.sl true true []) ⟨true,true,[]⟩ t.line t.col hT;have hN:xL 3 (⟨0,0,[]⟩:Val) [] [] (t.line,t.col)=⟨3,⟨((⟨0,0,[]⟩:Val)).k,((⟨0,0,[]⟩:Val)).n,((⟨0,0,[]⟩:Val)).s⟩,[],⟨true,true,[]⟩,t.line,t.col⟩:=rfl;rw[hN];clear hN;simp only[Sl.t,List.map_nil] at ha;obtain⟨k,s,⟨vk,vn,vs⟩,tl,tc⟩:=t;generalize hh:(⟨_,_,_,_,_,_⟩:Node)=N at *;clear hh;generalize L.map Tok.c=l at *;dsimp only at *;generalize hb:T.length=lenT at *;subst hk
 all_goals (have F_:=xaI)<;>rcases T with _|⟨t0,T0⟩<;>simp only[List.nil_append,List.cons_append,RX.o,rd,rdT,rdR,xD] at ha ⊢<;>clear hb<;>(try generalize (t0::T0).map Node.c=E0 at *)<;>(try generalize (t0::(T0++[N])).map Node.c=E1 at *)<;>(try generalize [N].map Node.c=E1 at *)<;>refine xZ jT rfl ?_<;>(simp only[zT,List.length_cons,List.length_nil,Nat.zero_add,Nat.reduceAdd];show W CC _ 107 (zA 230) _ _ _)<;>(repeat' first|refine gA ?_|refine gT ?_ ?_<;>intro hv<;>try cases hv;done|fail)<;>(first|(refine aJ ?_;rfl)|(refine aM ?_;rfl))
def zGY {nl cl:Bool} {L:List Tok} {i d:Nat} {T:List Node} {t:Tok} {r:RX} {op:Int} {least hm:Nat} (ht:L[i]?=some t) (hk:t.k=1) (hc:xT t.s uK=some (op,least,hm)) (hg:T≠[]→r.T≠[])
  (h:Om CC 258 [.box 0 0,.t (.agg [.int .u8 op,.int .i64 (least:Int),.int .i64 (hm:Int)]),.t (.agg [.int .i64 t.line,.int .i64 t.col])] (rd (.sl nl cl (L.map Tok.c)) i d T)=some (r.o (.sl nl cl (L.map Tok.c)))) :
  Om CC 230 [.box 0 0] (rd (.sl nl cl (L.map Tok.c)) i d T)=some (r.o (.sl nl cl (L.map Tok.c))):=by
 have he:=getElem?_lt ht;have hj:decide ((i:Int) ≥ ((L.map Tok.c).length:Int))=false:=by simp;omega
 have hf:=vF ht;have h1:=zIr t.s;rw[hc] at h1;obtain⟨x,b,h2⟩:∃(x:Val) (b:Bool),Om CC 256 [.t (.str t.s)] []=some (.val (.tup [.t (.agg [.int .u8 x.k,.int .i64 x.n,.str x.s]),.t (.bool b)]),[]):=by
  rw[zMM t.s];cases xT t.s zAj with
  |none=>exact⟨⟨0,0,[]⟩,false,rfl⟩
  |some x=>exact⟨x,true,rfl⟩
 obtain⟨xk,xn,xs⟩:=x;clear hc;obtain⟨k,s,⟨vk,vn,vs⟩,tl,tc⟩:=t;dsimp only at *;subst hk;generalize L.map Tok.c=l at *
 (have F_:=xaI)
 rcases T with _|⟨t0,T0⟩<;>rcases r with ⟨a,i',d',T'⟩|⟨e,i',d',T'⟩<;>rcases T' with _|⟨t1,T1⟩<;>first|exact absurd rfl (hg (List.cons_ne_nil _ _))|skip
 all_goals simp only[RX.o,rd,rdT,rdR,xD] at h ⊢<;>(try generalize (t0::T0).map Node.c=E0 at *)<;>(try generalize (t1::T1).map Node.c=E1 at *)<;>refine xZ jT rfl ?_<;>(simp only[zT,List.length_cons,List.length_nil,Nat.zero_add,Nat.reduceAdd];show W CC _ 107 (zA 230) _ _ _)<;>(repeat' first|refine gA ?_|refine gT ?_ ?_<;>intro hv<;>try cases hv;done|fail)<;>(first|(refine aJ ?_;rfl)|(refine aM ?_;rfl))
def zR5 {nl cl:Bool} {L:List Tok} {i d:Nat} {T:List Node} {t:Tok} {v:Val} (ht:L[i]?=some t) (hi:i<9223372036854775806) (hT:T.length<4294967295) (hk:t.k=1) (hc:xT t.s uK=none) (hv:xT t.s zAj=some v) :
  Om CC 230 [.box 0 0] (rd (.sl nl cl (L.map Tok.c)) i d T)=some ((RX.ok T.length (i+1) d (T++[xL 1 v [] [] (t.line,t.col)])).o (.sl nl cl (L.map Tok.c))):=by
 have he:=getElem?_lt ht;have hj:decide ((i:Int) ≥ ((L.map Tok.c).length:Int))=false:=by simp;omega
 have hf:=vF ht;have h4:=wI64 i (by omega);have h1:=zIr t.s;rw[hc] at h1;have h2:=zMM t.s;rw[hv] at h2;clear hc hv;have ha:=zBO (.sl nl cl (L.map Tok.c)) (i+1) d T 1 v.k v.n v.s [] (.sl true true []) ⟨true,true,[]⟩ t.line t.col hT;have hN:xL 1 v [] [] (t.line,t.col)=⟨1,⟨v.k,v.n,v.s⟩,[],⟨true,true,[]⟩,t.line,t.col⟩:=rfl;rw[hN];clear hN;simp only[Sl.t,List.map_nil] at ha;obtain⟨k,s,⟨vk,vn,vs⟩,tl,tc⟩:=t;obtain⟨xk,xn,xs⟩:=v;generalize hh:(⟨_,_,_,_,_,_⟩:Node)=N at *;clear hh;generalize L.map Tok.c=l at *;dsimp only at *;subst hk;generalize hb:T.length=lenT at *
 (have F_:=xaI)
 rcases T with _|⟨t0,T0⟩
 all_goals simp only[List.nil_append,List.cons_append,RX.o,rd,rdT,rdR,xD] at ha ⊢<;>clear hb<;>(try generalize (t0::T0).map Node.c=E0 at *)<;>(try generalize (t0::(T0++[N])).map Node.c=E1 at *)<;>(try generalize [N].map Node.c=E1 at *)<;>refine xZ jT rfl ?_<;>(simp only[zT,List.length_cons,List.length_nil,Nat.zero_add,Nat.reduceAdd];show W CC _ 107 (zA 230) _ _ _)<;>(repeat' first|refine gA ?_|refine gT ?_ ?_<;>intro hv<;>try cases hv;done|fail)<;>(first|(refine aJ ?_;rfl)|(refine aM ?_;rfl))
def zOB {nl cl:Bool} {L:List Tok} {i d:Nat} {T:List Node} {t:Tok} (ht:L[i]?=some t) (hk:t.k=1) (hc:xT t.s uK=none) (hv:xT t.s zAj=none) :
  Om CC 230 [.box 0 0] (rd (.sl nl cl (L.map Tok.c)) i d T)=some ((RX.pan 4 i d T).o (.sl nl cl (L.map Tok.c))):=by
 have he:=getElem?_lt ht;have hj:decide ((i:Int) ≥ ((L.map Tok.c).length:Int))=false:=by simp;omega
 have hf:=vF ht;have h1:=zIr t.s;rw[hc] at h1;have h2:=zMM t.s;rw[hv] at h2;clear hc hv;obtain⟨k,s,⟨vk,vn,vs⟩,tl,tc⟩:=t;generalize L.map Tok.c=l at *;dsimp only at *;subst hk
 (have F_:=xaI)
 rcases T with _|⟨t0,T0⟩
 all_goals simp only[RX.o,rd,rdT,rdR,xD]<;>(try generalize (t0::T0).map Node.c=E0 at *)<;>refine xZ jT rfl ?_<;>(simp only[zT,List.length_cons,List.length_nil,Nat.zero_add,Nat.reduceAdd];show W CC _ 107 (zA 230) _ _ _)<;>(repeat' first|refine gA ?_|refine gT ?_ ?_<;>intro hv<;>try cases hv;done|fail)<;>(first|(refine aJ ?_;rfl)|(refine aM ?_;rfl))
def zR1 {nl cl:Bool} {L:List Tok} {i d i' d' a:Nat} {T T':List Node} {t:Tok} {e:Int} (ht:L[i]?=some t) (hi:i<9223372036854775806) (hk:t.k≠4∧t.k≠5∧t.k≠6∧t.k≠2∧t.k≠3∧t.k≠1) (hw:isW L i [40]=false) :
  Om CC 230 [.box 0 0] (rd (.sl nl cl (L.map Tok.c)) i d T)=some ((RX.pan 4 i d T).o (.sl nl cl (L.map Tok.c))):=by
 have he:=getElem?_lt ht;have hj:decide ((i:Int) ≥ ((L.map Tok.c).length:Int))=false:=by simp;omega
 have hf:=vF ht;have n4:(t.k==4)=false:=by simp;omega
 have n5:(t.k==5)=false:=by simp;omega
 have n6:(t.k==6)=false:=by simp;omega
 have n2:(t.k==2)=false:=by simp;omega
 have n3:(t.k==3)=false:=by simp;omega
 have n1:(t.k==1)=false:=by simp;omega
 clear hk;have h1:=qP nl cl L i d T [40];have h2:=zHx nl cl L i d T [40] hw;rw[hw] at h1;clear hw;generalize hl:Tree.sl nl cl (L.map Tok.c)=ll at *;subst hl;obtain⟨k,s,⟨vk,vn,vs⟩,tl,tc⟩:=t;generalize L.map Tok.c=l at *;dsimp only at *
 (have F_:=xaI)
 rcases T with _|⟨t0,T0⟩
 all_goals simp only[RX.o,rd,rdT,rdR,xD] at h1 h2 ⊢<;>(try generalize (t0::T0).map Node.c=E0 at *)<;>(try generalize (t1::T1).map Node.c=E1 at *)<;>refine xZ jT rfl ?_<;>(simp only[zT,List.length_cons,List.length_nil,Nat.zero_add,Nat.reduceAdd];show W CC _ 107 (zA 230) _ _ _)<;>(refine gA ?_)<;>(first|(refine aJ ?_;rfl)|(refine aM ?_;rfl))
def zR9 {nl cl:Bool} {L:List Tok} {i d i' d' a:Nat} {T T':List Node} {t:Tok} {e:Int} (ht:L[i]?=some t) (hi:i<9223372036854775806) (hk:t.k≠4∧t.k≠5∧t.k≠6∧t.k≠2∧t.k≠3∧t.k≠1) (hw:isW L i [40]=true) (hd:d=12) :
  Om CC 230 [.box 0 0] (rd (.sl nl cl (L.map Tok.c)) i d T)=some ((RX.pan 12 i d T).o (.sl nl cl (L.map Tok.c))):=by
 have he:=getElem?_lt ht;have hj:decide ((i:Int) ≥ ((L.map Tok.c).length:Int))=false:=by simp;omega
 have hf:=vF ht;have n4:(t.k==4)=false:=by simp;omega
 have n5:(t.k==5)=false:=by simp;omega
 have n6:(t.k==6)=false:=by simp;omega
 have n2:(t.k==2)=false:=by simp;omega
 have n3:(t.k==3)=false:=by simp;omega
 have n1:(t.k==1)=false:=by simp;omega
 clear hk;subst hd;have h1:=qP nl cl L i 12 T [40];have h2:=zKI (.sl nl cl (L.map Tok.c)) i T;rw[hw] at h1;clear hw;generalize hl:Tree.sl nl cl (L.map Tok.c)=ll at *;subst hl;obtain⟨k,s,⟨vk,vn,vs⟩,tl,tc⟩:=t;generalize L.map Tok.c=l at *;dsimp only at *
 (have F_:=xaI)
 rcases T with _|⟨t0,T0⟩
 all_goals simp only[RX.o,rd,rdT,rdR,xD] at h1 h2 ⊢<;>(try generalize (t0::T0).map Node.c=E0 at *)<;>(try generalize (t1::T1).map Node.c=E1 at *)<;>refine xZ jT rfl ?_<;>(simp only[zT,List.length_cons,List.length_nil,Nat.zero_add,Nat.reduceAdd];show W CC _ 107 (zA 230) _ _ _)<;>(refine gA ?_)<;>(first|(refine aJ ?_;rfl)|(refine aM ?_;rfl))
def zTr {nl cl:Bool} {L:List Tok} {i d i' d' a:Nat} {T T':List Node} {t:Tok} {e:Int} (ht:L[i]?=some t) (hi:i<9223372036854775806) (hk:t.k≠4∧t.k≠5∧t.k≠6∧t.k≠2∧t.k≠3∧t.k≠1) (hw:isW L i [40]=true) (hd:d<12) (hg:T≠[]→T'≠[]) (h:Om CC 186 [.box 0 0,.t (.int .i64 0)] (rd (.sl nl cl (L.map Tok.c)) (i+1) (d+1) T)=some ((RX.pan e i' d' T').o (.sl nl cl (L.map Tok.c)))) :
  Om CC 230 [.box 0 0] (rd (.sl nl cl (L.map Tok.c)) i d T)=some ((RX.pan e i' d' T').o (.sl nl cl (L.map Tok.c))):=by
 have he:=getElem?_lt ht;have hj:decide ((i:Int) ≥ ((L.map Tok.c).length:Int))=false:=by simp;omega
 have hf:=vF ht;have n4:(t.k==4)=false:=by simp;omega
 have n5:(t.k==5)=false:=by simp;omega
 have n6:(t.k==6)=false:=by simp;omega
 have n2:(t.k==2)=false:=by simp;omega
 have n3:(t.k==3)=false:=by simp;omega
 have n1:(t.k==1)=false:=by simp;omega
 clear hk;have h1:=qP nl cl L i d T [40];have h2:=zDV (.sl nl cl (L.map Tok.c)) i d T hd;have h3:=zDE nl cl L i (d+1) T [40] (by omega) hw;rw[hw] at h1;clear hw;generalize hl:Tree.sl nl cl (L.map Tok.c)=ll at *;subst hl;obtain⟨k,s,⟨vk,vn,vs⟩,tl,tc⟩:=t;generalize L.map Tok.c=l at *;dsimp only at *
 (have F_:=xaI)
 rcases T with _|⟨t0,T0⟩<;>rcases T' with _|⟨t1,T1⟩<;>first|exact absurd rfl (hg (List.cons_ne_nil _ _))|skip
 all_goals simp only[RX.o,rd,rdT,rdR,xD] at h h1 h2 h3 ⊢<;>(try generalize (t0::T0).map Node.c=E0 at *)<;>(try generalize (t1::T1).map Node.c=E1 at *)<;>refine xZ jT rfl ?_<;>(simp only[zT,List.length_cons,List.length_nil,Nat.zero_add,Nat.reduceAdd];show W CC _ 107 (zA 230) _ _ _)<;>(refine gA ?_)<;>(first|(refine aJ ?_;rfl)|(refine aM ?_;rfl))
def zSu {nl cl:Bool} {L:List Tok} {i d i' d' a:Nat} {T T':List Node} {t:Tok} {e:Int} (ht:L[i]?=some t) (hi:i<9223372036854775806) (hk:t.k≠4∧t.k≠5∧t.k≠6∧t.k≠2∧t.k≠3∧t.k≠1) (hw:isW L i [40]=true) (hd:d<12) (hg:T≠[]→T'≠[]) (h:Om CC 186 [.box 0 0,.t (.int .i64 0)] (rd (.sl nl cl (L.map Tok.c)) (i+1) (d+1) T)=some ((RX.ok a i' (d+1) T').o (.sl nl cl (L.map Tok.c)))) (hn:isW L i' [41]=false) :
  Om CC 230 [.box 0 0] (rd (.sl nl cl (L.map Tok.c)) i d T)=some ((RX.pan 4 i' (d+1) T').o (.sl nl cl (L.map Tok.c))):=by
 have he:=getElem?_lt ht;have hj:decide ((i:Int) ≥ ((L.map Tok.c).length:Int))=false:=by simp;omega
 have hf:=vF ht;have n4:(t.k==4)=false:=by simp;omega
 have n5:(t.k==5)=false:=by simp;omega
 have n6:(t.k==6)=false:=by simp;omega
 have n2:(t.k==2)=false:=by simp;omega
 have n3:(t.k==3)=false:=by simp;omega
 have n1:(t.k==1)=false:=by simp;omega
 clear hk;have h1:=qP nl cl L i d T [40];have h2:=zDV (.sl nl cl (L.map Tok.c)) i d T hd;have h3:=zDE nl cl L i (d+1) T [40] (by omega) hw;rw[hw] at h1;clear hw;have h5:=zHx nl cl L i' (d+1) T' [41] hn;generalize hl:Tree.sl nl cl (L.map Tok.c)=ll at *;subst hl;obtain⟨k,s,⟨vk,vn,vs⟩,tl,tc⟩:=t;generalize L.map Tok.c=l at *;dsimp only at *
 (have F_:=xaI)
 rcases T with _|⟨t0,T0⟩<;>rcases T' with _|⟨t1,T1⟩<;>first|exact absurd rfl (hg (List.cons_ne_nil _ _))|skip
 all_goals simp only[RX.o,rd,rdT,rdR,xD] at h h1 h2 h3 h5 ⊢<;>(try generalize (t0::T0).map Node.c=E0 at *)<;>(try generalize (t1::T1).map Node.c=E1 at *)<;>refine xZ jT rfl ?_<;>(simp only[zT,List.length_cons,List.length_nil,Nat.zero_add,Nat.reduceAdd];show W CC _ 107 (zA 230) _ _ _)<;>(refine gA ?_)<;>(first|(refine aJ ?_;rfl)|(refine aM ?_;rfl))
def zU0 {nl cl:Bool} {L:List Tok} {i d i' d' a:Nat} {T T':List Node} {t:Tok} {e:Int} (ht:L[i]?=some t) (hi:i<9223372036854775806) (hk:t.k≠4∧t.k≠5∧t.k≠6∧t.k≠2∧t.k≠3∧t.k≠1) (hw:isW L i [40]=true) (hd:d<12) (hg:T≠[]→T'≠[]) (h:Om CC 186 [.box 0 0,.t (.int .i64 0)] (rd (.sl nl cl (L.map Tok.c)) (i+1) (d+1) T)=some ((RX.ok a i' (d+1) T').o (.sl nl cl (L.map Tok.c)))) (hn:isW L i' [41]=true) (ho:i'<9223372036854775807) :
  Om CC 230 [.box 0 0] (rd (.sl nl cl (L.map Tok.c)) i d T)=some ((RX.ok a (i'+1) d T').o (.sl nl cl (L.map Tok.c))):=by
 have he:=getElem?_lt ht;have hj:decide ((i:Int) ≥ ((L.map Tok.c).length:Int))=false:=by simp;omega
 have hf:=vF ht;have n4:(t.k==4)=false:=by simp;omega
 have n5:(t.k==5)=false:=by simp;omega
 have n6:(t.k==6)=false:=by simp;omega
 have n2:(t.k==2)=false:=by simp;omega
 have n3:(t.k==3)=false:=by simp;omega
 have n1:(t.k==1)=false:=by simp;omega
 clear hk;have h1:=qP nl cl L i d T [40];have h2:=zDV (.sl nl cl (L.map Tok.c)) i d T hd;have h3:=zDE nl cl L i (d+1) T [40] (by omega) hw;rw[hw] at h1;clear hw;have h5:=zDE nl cl L i' (d+1) T' [41] ho hn;have h6:IntKind.i64.wrap (((d+1:Nat):Int) - 1)=(d:Int):=by rw[wrap64]<;>omega
 generalize hl:Tree.sl nl cl (L.map Tok.c)=ll at *;subst hl;obtain⟨k,s,⟨vk,vn,vs⟩,tl,tc⟩:=t;generalize L.map Tok.c=l at *;dsimp only at *
 (have F_:=xaI)
 rcases T with _|⟨t0,T0⟩<;>rcases T' with _|⟨t1,T1⟩<;>first|exact absurd rfl (hg (List.cons_ne_nil _ _))|skip
 all_goals simp only[RX.o,rd,rdT,rdR,xD] at h h1 h2 h3 h5 ⊢<;>(try generalize (t0::T0).map Node.c=E0 at *)<;>(try generalize (t1::T1).map Node.c=E1 at *)<;>refine xZ jT rfl ?_<;>(simp only[zT,List.length_cons,List.length_nil,Nat.zero_add,Nat.reduceAdd];show W CC _ 107 (zA 230) _ _ _)<;>(refine gA ?_)<;>(first|(refine aJ ?_;rfl)|(refine aM ?_;rfl))
end Go.Ab
