/- Lemmas. -/
import Derived.Test.YtchgjnkleakhoaaGreatDoorG34
import Derived.Test.YtchgjnkleakhoaaGreatDoorG35
set_option maxRecDepth 1000000
set_option maxHeartbeats 40000000
set_option linter.all false
namespace Go.Ab
open Go.Proofs
attribute [local irreducible] W RW RR
def addN(l:List (List Nat))(n:Node):List (List Nat):=if n.op=2∧hasW n.name l=false then l++[n.name] else l
def zLf(T:List Node):List (List Nat):=T.foldl addN []
def zYR(l:List (List Nat))(n:Node):(addN l n).length≤l.length+1:=by unfold addN;split<;>simp
def zPl(T:List Node):∀l:List (List Nat),(T.foldl addN l).length≤l.length+T.length:=by
 induction T with
 |nil=>intro l;simp
 |cons n r ih=>intro l;have h1:=ih (addN l n);have h2:=zYR l n;simp only[List.foldl_cons,List.length_cons];omega
def zZ8{T:List Node}{i:Nat}{n:Node}(h:T[i]?=some n):(T.take (i+1)).foldl addN []=addN ((T.take i).foldl addN []) n:=by
 rw[List.take_add_one,h,List.foldl_append];rfl
def nmT(l:List (List Nat)):Tree:=.sl l.isEmpty l.isEmpty (l.map strC)
def nmV(l:List (List Nat)):AV:=match l.isEmpty with|true=>.t (.sl true true [])|false=>.hs 0 0
def nmH(l:List (List Nat)):Heap:=match l.isEmpty with|true=>[]|false=>[.arr 1 0 false (l.map strC)]
def nmS(a b:Bool)(l:List (List Tree))(len:Nat)(x:Nat×Bool×List (List Nat)):St :=
 ⟨[(2,match x.2.1 with|true=>.hs 0 0|false=>.t (.sl true true [])),(8,.t (.sl a b l)),(9,.t (.int .i64 (len:Int))),(10,.t (.int .i64 (x.1:Int)))],
  match x.2.1 with|true=>[.arr 1 0 false (x.2.2.map strC)]|false=>[]⟩
def xbB:=c5 zF zG zQ zE (c5 zD zI zB xC (c5 zO zL zN zXG (c2 zXM zLj)))
def zSq (a b:Bool) (T:List Node) (hT:T.length≤1000000000) (hP:∀m ∈ T,PNode m) (hb:T.length≤60→∀x ∈ vH T,x<256) :
  ∃r:List Nat×Int,Om CC 28 [.t (.sl a b (T.map Node.c))] []=some (.val (nmV (if r.2=0 then zLf T else [])),nmH (if r.2=0 then zLf T else []))∧zE6 T r:=by
 obtain⟨r,hr,hTP⟩:=zWF a b T hP hb;refine⟨r,?_,hTP⟩;clear hP hb hTP;refine zK yFg rfl ?_
 by_cases he:r.2=0
 ·rw[if_pos he];have he':(r.2==0)=true:=by simpa using he
  rw[he'] at hr;clear he he';have hml:(T.map Node.c).length=T.length:=List.length_map ..;generalize hl:T.map Node.c=l at *
  (have F_:=xbB;show W CC 0 31 (zA 28) _ ⟨[(0,_)],[]⟩ _)
  (refine gA ?_)
  clear hr;refine zY (nmS a b l T.length) (fun x=>T.length - x.1) (fun x=>x.1≤T.length∧x.2.2=(T.take x.1).foldl addN []∧(x.2.1=false↔x.2.2=[])) (0,false,[]) (by simp only[nmS];exact aTd) ⟨Nat.zero_le _,rfl,by simp⟩ ?_;rintro⟨i,st,out⟩ ⟨hi,ho,hno⟩;dsimp only at hi ho hno;simp only[nmS]
  by_cases hi':i<T.length
  ·have hw:=wI64 i (by omega);have hd:decide ((i:Int)<(T.length:Int))=true:=by simpa using hi'
   obtain⟨n,hn⟩:∃n,T[i]?=some n:=⟨_,List.getElem?_eq_getElem hi'⟩;have hN:=zJl hn;rw[hl] at hN;have hf:=zZ8 hn;rw[← ho] at hf;have hol:out.length≤1000000000:=by rw[ho];have:=zPl (T.take i) [];simp only[List.length_nil,List.length_take] at this;omega
   have hle:lens 1 (out.map strC)=true:=by unfold lens;rw[List.all_map];exact List.all_eq_true.2 fun x _=>rfl
   have hsm:decide (out.length+1<4294967296)=true:=by(rw[decide_eq_true_eq];omega)
   have hc:=zFr out.isEmpty out.isEmpty out n.name (by omega);have hnx:Hid (addN out n=[]→out=[]):=⟨fun h=>by unfold addN at h;split at h;simp at h;exact h⟩
   have hfd:=Hid.mk hf.symm;unfold addN at hf;clear ho hn hol hl;cases hq:(n.op==2) with
   |false =>
    rw[if_neg (fun h=>by rw[h.1] at hq;exact absurd hq (by decide))] at hf;have hag:Hid _:=⟨And.intro hi' (And.intro hf.symm hno)⟩
    clear hc hf hno;cases st<;>(refine gA ?_)
    ·exact zC (i+1,false,out) (by dsimp only;omega) hag.h (by simp only[nmS];exact aTd)
    exact zC (i+1,true,out) (by dsimp only;omega) hag.h (by simp only[nmS];exact aTd)
   |true =>
    have hq2:n.op=2:=by simpa using hq
    cases hh:hasW n.name out with
    |true =>
     rw[hh] at hc;rw[if_neg (fun h=>by rw[hh] at h;exact absurd h.2 (by decide))] at hf;have hag:Hid _:=⟨And.intro hi' (And.intro hf.symm hno)⟩
     cases st with
     |true =>
      have:out.isEmpty=false:=by cases out with|nil=>exact absurd (hno.2 rfl) (by decide)|cons _ _=>rfl
      rw[this] at hc;clear this hf hno hh
      (refine gA ?_)
      exact zC (i+1,true,out) (by dsimp only;omega) hag.h (by simp only[nmS];exact aTd)
     |false =>
      obtain rfl:=hno.1 rfl;clear hf hno;cases hh
    |false =>
     rw[hh] at hc;rw[if_pos ⟨hq2,hh⟩] at hf;have hag:Hid _:=⟨And.intro hi' (And.intro hf.symm (by simp:true=false↔out++[n.name]=[]))⟩
     cases st with
     |true =>
      have:out.isEmpty=false:=by cases out with|nil=>exact absurd (hno.2 rfl) (by decide)|cons _ _=>rfl
      rw[this] at hc;clear this hf hno hh
      (refine gA ?_)
      exact zC (i+1,true,out++[n.name]) (by dsimp only;omega) hag.h (by simp only[nmS];(have X_:=c2 @mapA @strC.eq_1;exact aTdX))
     |false =>
      obtain rfl:=hno.1 rfl;clear hf hno hh;simp only[List.isEmpty_nil,List.map_nil] at hc
      (refine gA ?_)
      exact zC (i+1,true,[]++[n.name]) (by dsimp only;omega) hag.h (by simp only[nmS];(have X_:=c2 @mapA @strC.eq_1;exact aTdX))
  have hd:decide ((i:Int)<(T.length:Int))=false:=by simpa using hi'
  rw[List.take_of_length_le (by omega)] at ho;rw[show zLf T=out from ho.symm];clear ho hl;unfold nmV nmH;cases st with
  |true =>
   have:out.isEmpty=false:=by cases out with|nil=>exact absurd (hno.2 rfl) (by decide)|cons _ _=>rfl
   rw[this];clear this hno;generalize out.map strC=O at *
   (refine gA ?_)
   (refine aK ?_ ?_)
   ·rfl
   rfl
  |false =>
   obtain rfl:=hno.1 rfl;clear hno
   (refine gA ?_)
   (refine aK ?_ ?_)
   ·rfl
   rfl
 rw[if_neg he];have he':(r.2==0)=false:=by simpa using he
 rw[he'] at hr;generalize T.map Node.c=l at *;clear he he'
 (have F_:=xbB;show W CC 0 31 (zA 28) _ ⟨[(0,_)],[]⟩ _)
 (refine gA ?_)
 (refine aK ?_ ?_)
 ·rfl
 rfl
def unS(a b:Bool)(l:List (List Tree))(len:Nat)(x:Nat×Bool×List (List Nat)):St :=
 ⟨[(2,match x.2.1 with|true=>.hs 0 0|false=>.t (.sl true true [])),(10,.t (.sl a b l)),(11,.t (.int .i64 (len:Int))),(12,.t (.int .i64 (x.1:Int)))],
  match x.2.1 with|true=>[.arr 1 0 false (x.2.2.map strC)]|false=>[]⟩
def unI(a b:Bool)(l:List (List Tree))(len i:Nat)(M:List (List Nat))(x:Nat×Bool×List (List Nat)):St :=
 ⟨[(2,match x.2.1 with|true=>.hs 0 0|false=>.t (.sl true true [])),(10,.t (.sl a b l)),(11,.t (.int .i64 (len:Int))),(12,.t (.int .i64 (i:Int))),(22,match x.2.1 with|true=>.hs 1 0|false=>.hs 0 0),(23,.t (.int .i64 (M.length:Int))),(24,.t (.int .i64 (x.1:Int)))],
  match x.2.1 with|true=>[.arr 1 0 false (x.2.2.map strC),.arr 1 0 false (M.map strC)]|false=>[.arr 1 0 false (M.map strC)]⟩
structure UnP (T:List Test) (N:Test→List (List Nat)) (x:Nat×Bool×List (List Nat)):Prop where
 le:x.1≤T.length
 len:x.2.2.length≤120 * x.1
 st:x.2.1=false↔x.2.2=[]
 mem:∀j y,j<x.1→T[j]?=some y→∀w ∈ N y,w ∈ x.2.2
structure UnQ (i:Nat) (M out:List (List Nat)) (x:Nat×Bool×List (List Nat)):Prop where
 le:x.1≤M.length
 len:x.2.2.length≤120 * i+x.1
 st:x.2.1=false↔x.2.2=[]
 sub:∀w ∈ out,w ∈ x.2.2
 mem:∀j w,j<x.1→M[j]?=some w→w ∈ x.2.2
def zVA{w:List Nat}{l:List (List Nat)}(h:hasW w l=true):w ∈ l:=by
 unfold hasW at h;rw[List.any_eq_true] at h;obtain⟨x,hx,h⟩:=h;rw[of_decide_eq_true h];exact hx
theorem UnQ.has{i:Nat}{M out:List (List Nat)}{j:Nat}{s:Bool}{o:List (List Nat)}(h:UnQ i M out (j,s,o)){w:List Nat}(hw:M[j]?=some w)(hh:hasW w o=true):UnQ i M out (j+1,s,o) :=
 ⟨(List.getElem?_eq_some_iff.1 hw).1,by have:=h.len;dsimp only at *;omega,h.st,h.sub,fun k x hk hx=>by
  rcases Nat.lt_succ_iff_lt_or_eq.1 hk with h1|rfl
  ·exact h.mem k x h1 hx
  rw[hw] at hx;injection hx with hx;subst hx;exact zVA hh⟩
theorem UnQ.add{i:Nat}{M out:List (List Nat)}{j:Nat}{s:Bool}{o:List (List Nat)}(h:UnQ i M out (j,s,o)){w:List Nat}(hw:M[j]?=some w):UnQ i M out (j+1,true,o++[w]) :=
 ⟨(List.getElem?_eq_some_iff.1 hw).1,by have:=h.len;dsimp only at *;simp only[List.length_append,List.length_singleton];omega,by simp,fun x hx=>List.mem_append_left _ (h.sub x hx),fun k x hk hx=>by
  rcases Nat.lt_succ_iff_lt_or_eq.1 hk with h1|rfl
  ·exact List.mem_append_left _ (h.mem k x h1 hx)
  rw[hw] at hx;injection hx with hx;subst hx;simp⟩
theorem UnQ.done{T:List Test}{N:Test→List (List Nat)}{i:Nat}{x:Test}{M out:List (List Nat)}{s0:Bool}(h0:UnP T N (i,s0,out))(hx:T[i]?=some x)(hM:M.length≤120)(hN:N x=M){s:Bool}{o:List (List Nat)}(h:UnQ i M out (M.length,s,o)):UnP T N (i+1,s,o) :=
 ⟨(List.getElem?_eq_some_iff.1 hx).1,by have:=h.len;dsimp only at *;omega,h.st,fun k y hk hy w hw=>by
  rcases Nat.lt_succ_iff_lt_or_eq.1 hk with h1|rfl
  ·exact h.sub w (h0.mem k y h1 hy w hw)
  rw[hx] at hy;injection hy with hy;subst hy
  rw[hN] at hw;obtain⟨j,hj,rfl⟩:=List.getElem_of_mem hw;exact h.mem j _ hj (List.getElem?_eq_getElem hj)⟩
def zM2(l:List (List Nat)):lens 1 (l.map strC)=true:=by unfold lens;rw[List.all_map];exact List.all_eq_true.2 fun x _=>rfl
def zR9 (a b:Bool) (T:List Test) (hT:T.length≤30) (hM:Om CC 20 [.t (.sl a b (T.map Test.c))] []=some (.val (.t (.bool true)),[])) (NA NB:Test→List (List Nat))
  (hN:∀x ∈ T,Om CC 28 [.t (x.a.t Node.c)] []=some (.val (nmV (NA x)),nmH (NA x))∧Om CC 28 [.t (x.b.t Node.c)] []=some (.val (nmV (NB x)),nmH (NB x))∧(NA x).length≤60∧(NB x).length≤60) :
  ∃out:List (List Nat),Om CC 21 [.t (.sl a b (T.map Test.c))] []=some (.val (.t (nmT out)),[])∧out.length≤3600∧∀x ∈ T,∀w ∈ NA x++NB x,w ∈ out:=by
 refine zJ yDr rfl ?_;have hml:(T.map Test.c).length=T.length:=List.length_map ..;generalize hl:T.map Test.c=l at *
 (have F_:=c5 zF zG zQ zE (c5 zD zI yM zB (c5 xC zO zL yL (c5 zN yGP zRE yGl zLj)));show W CC 0 39 (zA 21) _ ⟨[(0,_)],[]⟩ _)
 (refine gA ?_)
 clear hM;refine zY (unS a b l T.length) (fun x=>T.length - x.1) (UnP T fun x=>NA x++NB x) (0,false,[]) (by simp only[unS];exact aTd) ⟨Nat.zero_le _,Nat.zero_le _,by simp,fun j y h=>absurd h (Nat.not_lt_zero _)⟩ ?_;rintro⟨i,st,out⟩ hP;obtain⟨hi,hlen,hno,hmem⟩:=id hP;dsimp only at hi hlen hno hmem;simp only[unS]
 by_cases hi':i<T.length
 ·have hw:=wI64 i (by omega);have hd:decide ((i:Int)<(T.length:Int))=true:=by simpa using hi'
  obtain⟨x,hx⟩:∃x,T[i]?=some x:=⟨_,List.getElem?_eq_getElem hi'⟩;obtain⟨na,nb,la,lb⟩:=hN x (List.mem_of_getElem? hx);have hX:l[i]?=some x.c:=by rw[← hl,List.getElem?_map,hx];rfl
  have hdone:=Hid.mk (@UnQ.done T (fun x=>NA x++NB x) i x (NA x++NB x) out st hP hx (by rw[List.length_append];omega) rfl);have hmem0:Hid (∀w ∈ out,w ∈ out):=⟨fun _ h=>h⟩
  have hP:=Hid.mk hP;clear hN hmem hl;obtain⟨op,⟨an,ac,al⟩,⟨bn,bc,bl⟩,lo,hg,⟨kn,kc,kl⟩,ln,cl⟩:=x;simp only[Test.c,Sl.t] at hX na nb;generalize hNA:NA _=A at *;generalize hNB:NB _=B at *;clear hNA hNB hx;generalize al.map Node.c=al' at *;generalize bl.map Node.c=bl' at *;generalize kl.map intC=kl' at *;have hnil:Hid (A=[]→B=[]→UnP T (fun x=>NA x++NB x) (i+1,st,out)):=⟨fun h1 h2=>by subst h1 h2;exact hdone.h ⟨Nat.le_refl _,by dsimp only;omega,hno,fun _ h=>h,fun j w hj=>absurd hj (Nat.not_lt_zero _)⟩⟩
  have hq0:Hid (UnQ i (A++B) out (0,st,out)):=⟨⟨Nat.zero_le _,by dsimp only;omega,hno,fun _ h=>h,fun j w hj=>absurd hj (Nat.not_lt_zero _)⟩⟩
  have hol:out.length≤3600:=by omega
  have hAB:(A++B).length≤120:=by rw[List.length_append];omega
  have hno:=Hid.mk hno;rcases A with _|⟨a0,A⟩<;>rcases B with _|⟨b0,B⟩
  ·have hag:=hnil.h rfl rfl;clear hnil hq0 hdone hP hmem0 hno hlen;simp only[nmV,nmH,List.isEmpty_nil] at na nb;have hag:=Hid.mk hag;cases st<;>(repeat' first|refine gA ?_|refine gT ?_ ?_<;>intro hv<;>try cases hv;done|refine aI ?_|fail)
   ·exact zC (i+1,false,out) (by dsimp only;omega) hag.h (by simp only[unS];exact aTd)
   exact zC (i+1,true,out) (by dsimp only;omega) hag.h (by simp only[unS];exact aTd)
  obtain⟨M,hM0,hM,hL⟩:∃M,M=[]++(b0::B)∧M.map strC=[.str b0]::B.map strC∧M.length=B.length+1:=⟨_,rfl,rfl,rfl⟩;have l1:((B.map strC).all fun e=>e.length.beq 1)=true:=zM2 B;have s1:decide (B.length+1<4294967296)=true:=by(rw[decide_eq_true_eq];rw[← hM0] at hAB;omega)
  rotate_left
  obtain⟨M,hM0,hM,hL⟩:∃M,M=(a0::A)++[]∧M.map strC=[.str a0]::A.map strC∧M.length=A.length+1:=⟨_,rfl,by rw[List.append_nil];rfl,by rw[List.append_nil];rfl⟩;have s1:decide (A.length+1<4294967296)=true:=by(rw[decide_eq_true_eq];rw[← hM0] at hAB;omega)
  rotate_left
  obtain⟨M,hM0,hM,hL⟩:∃M,M=(a0::A)++(b0::B)∧M.map strC=[.str a0]::(A.map strC++[.str b0]::B.map strC)∧M.length=A.length+(B.length+1)+1:=⟨_,rfl,by rw[List.map_append];rfl,by simp only[List.length_append,List.length_cons];omega⟩;have l1:((B.map strC).all fun e=>e.length.beq 1)=true:=zM2 B;have s1:decide (A.length+1+(B.length+1)<4294967296)=true:=by(rw[decide_eq_true_eq];rw[← hM0] at hAB;omega)
  rotate_left
  all_goals
   clear hnil hP hmem0;simp only[nmV,nmH,List.isEmpty_nil,List.isEmpty_cons,List.map_cons,strC] at na nb;rw[← hM0] at hq0 hdone hAB;clear hM0
  all_goals
   cases st
   all_goals
    (have x0_:=@Nat.sub_self;have x1_:=@List.length_append.{0};(refine gA ?_);all_goals clear x0_ x1_)
    refine zY (unI a b l T.length i M) (fun x=>M.length - x.1) (UnQ i M out) (0,_,out) (by simp only[unI,hM,hL];exact aTd) hq0.h ?_;clear hq0 hno na nb s1 hM hL
    try clear l1
    rintro⟨j,st,out'⟩ hQ;obtain⟨hj,hlen2,hno2,-,-⟩:=id hQ;dsimp only at hj hlen2 hno2;simp only[unI]
    by_cases hj':j<M.length
    ·have hw2:=wI64 j (by omega);have hd2:decide ((j:Int)<(M.length:Int))=true:=by simpa using hj'
     obtain⟨w,hww⟩:∃w,M[j]?=some w:=⟨_,List.getElem?_eq_getElem hj'⟩;have hE:nth (M.map strC) j=some [.str w]:=by rw[yP,List.getElem?_map,hww];rfl
     have l0:((0:Int)≤(j:Int))=True:=by simp
     have l1:((j:Int)<(((M.map strC).length:Nat):Int))=True:=by rw[List.length_map];simpa using hj'
     have hc:=zFr out'.isEmpty out'.isEmpty out' w (by omega);have hsm:decide (out'.length+1<4294967296)=true:=by(rw[decide_eq_true_eq];omega)
     have hadd:=Hid.mk (hQ.add hww);have hhas:=Hid.mk (hQ.has hww);have hlt:Hid (M.length - (j+1)<M.length - j):=⟨by omega⟩
     clear hQ hww hj' hj hlen2 hdone hlen;generalize hME:M.map strC=E at *;have hME:=Hid.mk hME;cases hh:hasW w out' with
     |true =>
      rw[hh] at hc;have hag:=Hid.mk (hhas.h hh);clear hadd hhas;cases st with
      |true =>
       rw[show out'.isEmpty=false from by cases out' with|nil=>exact absurd (hno2.2 rfl) (by decide)|cons _ _=>rfl] at hc;clear hno2 hh
       (refine gA ?_)
       exact zC (j+1,true,out') hlt.h hag.h (by simp only[unI,hME.h];exact aTd)
      |false=>(obtain rfl:=hno2.1 rfl);cases hh
     |false =>
      rw[hh] at hc;have hag:=Hid.mk hadd.h;clear hadd hhas;cases st with
      |true =>
       rw[show out'.isEmpty=false from by cases out' with|nil=>exact absurd (hno2.2 rfl) (by decide)|cons _ _=>rfl] at hc;clear hno2 hh
       (refine gA ?_)
       exact zC (j+1,true,out'++[w]) hlt.h hag.h (by simp only[unI,hME.h];(have X_:=c2 @mapA @strC.eq_1;exact aTdX))
      |false =>
       obtain rfl:=hno2.1 rfl;clear hno2 hh;simp only[List.isEmpty_nil,List.map_nil] at hc
       (refine gA ?_)
       exact zC (j+1,true,[]++[w]) hlt.h hag.h (by simp only[unI,hME.h];(have X_:=c2 @mapA @strC.eq_1;exact aTdX))
    obtain rfl:j=M.length:=by omega
    have hd2:decide ((M.length:Int)<(M.length:Int))=false:=by simp
    have hag:=Hid.mk (hdone.h hQ);clear hQ hdone hj hj' hlen2 hlen;generalize M.map strC=E at *
    (refine gA ?_)
    exact zC (i+1,st,out') (by dsimp only;omega) hag.h (by simp only[unS];cases st<;>exact aTd)
 have hd:decide ((i:Int)<(T.length:Int))=false:=by simpa using hi'
 have hfin:∀x ∈ T,∀w ∈ NA x++NB x,w ∈ out:=fun x hx w hw=>by
  obtain⟨j,hj,rfl⟩:=List.getElem_of_mem hx;exact hmem j _ (by omega) (List.getElem?_eq_getElem hj) w hw
 have hol:out.length≤3600:=by omega
 have hfin:=Hid.mk (And.intro hol hfin);clear hN hmem hl hP hlen hol;cases st with
 |true =>
  have:out.isEmpty=false:=by cases out with|nil=>exact absurd (hno.2 rfl) (by decide)|cons _ _=>rfl
  have hnm:Hid (AV.t (nmT out)=.t (.sl false false (out.map strC))):=⟨by unfold nmT;rw[this]⟩
  clear this hno;generalize out.map strC=O at *
  (refine gA ?_)
  (refine aJ ?_)
  exact⟨out,⟨congrArg Out.val hnm.h.symm,rfl⟩,hfin.h⟩
 |false =>
  obtain rfl:=hno.1 rfl;clear hno
  (refine gA ?_)
  (refine aJ ?_)
  exact⟨[],⟨rfl,rfl⟩,hfin.h⟩
def zLx (x:Sl Node) (h1:x.l.length≤1000000000) (h2:∀m ∈ x.l,PNode m) (h3:x.l.length≤60→Byt (vH x.l)) :
  ∃N:List (List Nat),Om CC 28 [.t (x.t Node.c)] []=some (.val (nmV N),nmH N)∧N.length≤60:=by
 obtain⟨r,hr,hx⟩:=zSq x.nl x.cl x.l h1 h2 h3;refine⟨_,hr,?_⟩;split
 ·rename_i h0;have hl:x.l.length≤60:=by
   rcases hx with ⟨h,rfl⟩|⟨_,_,_,h,_⟩
   ·cases h0
   exact h
  have:=zPl x.l [];simp only[List.length_nil] at this;unfold zLf;omega
 simp
open Classical in
noncomputable def nmO(x:Sl Node):List (List Nat):=if h:∃N:List (List Nat),Om CC 28 [.t (x.t Node.c)] []=some (.val (nmV N),nmH N)∧N.length≤60 then h.choose else []
def zUr{x:Sl Node}(h:∃N:List (List Nat),Om CC 28 [.t (x.t Node.c)] []=some (.val (nmV N),nmH N)∧N.length≤60):Om CC 28 [.t (x.t Node.c)] []=some (.val (nmV (nmO x)),nmH (nmO x))∧(nmO x).length≤60:=by
 unfold nmO;rw[dif_pos h];exact h.choose_spec
def xbC:=c5 zF zG zQ zE (c5 zD zI yM zB (c5 xC zO zL yL (c5 zN yD6 zNJ zRE zXl)))
def zPG(a b:Bool)(T:List Test)(hP:∀x ∈ T,PTest x):∃r:Bool,Om CC 9 [.t (.sl a b (T.map Test.c))] []=some (.val (.t (.bool r)),[])∧(r=true→(zCT T).2=false):=by
 refine zJ yG7 rfl ?_;have hv:=zS0 a b T;obtain⟨t1,t1r,t1p⟩:=zTY a b T hP;have hm:=zX2 t1r;generalize hV:zCT T=V at *;obtain⟨V1,V2⟩:=V;dsimp only at hv;cases hq:(t1.2==0) with
 |true =>
  rw[hq] at hm;have hlen:T.length≤30:=t1p (by simpa using hq);obtain⟨out,hn,-,-⟩:=zR9 a b T hlen hm (fun x=>nmO x.a) (fun x=>nmO x.b) (fun x hx=>by
   have hp:=hP x hx;obtain⟨a1,a2⟩:=zUr (zLx x.a hp.a.1 hp.a.2.1 hp.a.2.2);obtain⟨b1,b2⟩:=zUr (zLx x.b hp.b.1 hp.b.2.1 hp.b.2.2);exact⟨a1,b1,a2,b2⟩)
  simp only[nmT] at hn;generalize out.map strC=O at *;generalize out.isEmpty=oe at *;generalize T.map Test.c=l at *;clear hP t1r t1p hq hlen hV
  (have F_:=xbC;show W CC 0 22 (zA 9) _ ⟨[(0,_)],[]⟩ _)
  (repeat' first|refine gA ?_|refine gT ?_ ?_<;>intro hv<;>try cases hv;done|fail)
  all_goals refine aJ ?_<;>exact⟨_,⟨rfl,rfl⟩,by clear F_;simp_all⟩
 |false =>
  rw[hq] at hm;generalize T.map Test.c=l at *;clear hP t1r t1p hq hV
  (have F_:=xbC;show W CC 0 22 (zA 9) _ ⟨[(0,_)],[]⟩ _)
  (repeat' first|refine gA ?_|refine gT ?_ ?_<;>intro hv<;>try cases hv;done|fail)
  all_goals refine aJ ?_<;>exact⟨_,⟨rfl,rfl⟩,by clear F_;simp_all⟩
def yGq(op:Int):Byt (ofX op).1:=by
 unfold ofX;rcases Nat.lt_or_ge op.toNat 27 with h|h
 ·have:∀k<27,∀b ∈ (zDN.getD k ([],8)).1,b<256:=by decide
  exact this _ h
 rw[List.getD,List.getElem?_eq_none (by simp [zDN];omega)];exact Byt.nil
def yCA{T:List Node}{X:List (List Nat)}{i k least:Nat}(hs:∀s ∈ X,Byt s):Byt (kidX T X i k least):=by
 unfold kidX;split
 ·exact Byt.nil
 split
 ·exact Byt.nil
 split
 ·split
  ·rename_i m s hm hx;have:=hs s (List.mem_of_getElem? hx);split
   ·exact Byt.cons (by decide) (this.app (Byt.cons (by decide) Byt.nil))
   exact this
  exact Byt.nil
 exact Byt.nil
def zYo(l:List (List Nat))(sep:List Nat):Byt (jG l sep):=Byt.nb _
def zWA{T:List Node}{X:List (List Nat)}{i:Nat}{n:Node}(hP:PNode n)(hn:Byt n.v.s∧Byt n.name)(hs:∀s ∈ X,Byt s):Byt (zB6 T X i n):=by
 have s1:∀c:Nat,c<256→Byt [c]:=fun c h=>Byt.cons h Byt.nil
 have hk:∀k least,Byt (kidX T X i k least):=fun k least=>yCA hs
 have ho:=yGq n.op;unfold zB6;split
 ·exact yHG _ hP.v hn.1
 split
 ·exact Byt.cons (by decide) hn.2
 split
 ·exact s1 _ (by decide)
 split
 ·exact((ho.app (s1 _ (by decide))).app (zYo _ _)).app (s1 _ (by decide))
 split
 ·exact ho.app (hk _ _)
 split
 ·exact((((hk _ _).app (s1 _ (by decide))).app ho).app (s1 _ (by decide))).app (hk _ _)
 exact((((hk _ _).app (s1 _ (by decide))).app ho).app (s1 _ (by decide))).app (hk _ _)
def zXD(T:List Node):∀(r:List Node) (i:Nat) (X:List (List Nat)) (last:List Nat),(∀m ∈ r,PNode m∧Byt m.v.s∧Byt m.name)→(∀s ∈ X,Byt s)→Byt last→Byt (wgo T r i X last)
 |[],_,_,_,_,_,h=>h
 |n::r,i,X,_,hr,hX,_=>by
  have hn:=hr n List.mem_cons_self;have h1:=zWA (T:=T) (i:=i) hn.1 hn.2 hX;rw[wgo];split
  ·exact Byt.nil
  exact zXD T r _ _ _ (fun m hm=>hr m (List.mem_cons_of_mem _ hm)) (fun s hs=>(List.mem_or_eq_of_mem_set hs).elim (hX s) (fun h=>h ▸ h1)) h1
def zUb{T:List Node}(hT:∀m ∈ T,PNode m∧Byt m.v.s∧Byt m.name):Byt (vH T) :=
 zXD T T 0 _ [] hT (fun s hs=>by rw[(List.mem_replicate.1 hs).2];exact Byt.nil) Byt.nil
end Go.Ab
