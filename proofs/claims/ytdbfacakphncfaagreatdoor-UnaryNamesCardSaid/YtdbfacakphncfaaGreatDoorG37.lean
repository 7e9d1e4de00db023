/- Lemmas. -/
import Derived.Test.YtdbfacakphncfaaGreatDoorG35
import Derived.Test.YtdbfacakphncfaaGreatDoorG24
set_option maxRecDepth 1000000
set_option maxHeartbeats 40000000
set_option linter.all false
namespace Go.Ab
open Go.Proofs
attribute [local irreducible] W RW RR
def addN(l:List (List Nat))(n:Node):List (List Nat):=if n.op=2∧hasW n.name l=false then l++[n.name] else l
def zA4(T:List Node):List (List Nat):=T.foldl addN []
def zZu(l:List (List Nat))(n:Node):(addN l n).length≤l.length+1:=by unfold addN;split<;>simp
def zOZ(T:List Node):∀l:List (List Nat),(T.foldl addN l).length≤l.length+T.length:=by
 induction T with
 |nil=>intro l;simp
 |cons n r ih=>intro l;have h1:=ih (addN l n);have h2:=zZu l n;simp only[List.foldl_cons,List.length_cons];omega
def yAf{T:List Node}{i:Nat}{n:Node}(h:T[i]?=some n):(T.take (i+1)).foldl addN []=addN ((T.take i).foldl addN []) n:=by
 rw[List.take_add_one,h,List.foldl_append];rfl
def nmT(l:List (List Nat)):Tree:=.sl l.isEmpty l.isEmpty (l.map strC)
def nmV(l:List (List Nat)):AV:=match l.isEmpty with|true=>.t (.sl true true [])|false=>.hs 0 0
def nmH(l:List (List Nat)):Heap:=match l.isEmpty with|true=>[]|false=>[.arr 1 0 false (l.map strC)]
def nmS(a b:Bool)(l:List (List Tree))(len:Nat)(x:Nat×Bool×List (List Nat)):St :=
 ⟨[(2,match x.2.1 with|true=>.hs 0 0|false=>.t (.sl true true [])),(8,.t (.sl a b l)),(9,.t (.int .i64 (len:Int))),(10,.t (.int .i64 (x.1:Int)))],
  match x.2.1 with|true=>[.arr 1 0 false (x.2.2.map strC)]|false=>[]⟩
def xbD:=c5 zF zG zP zE (c5 zC zB zO zK (c5 xC zM zI zX6 (c2 zYj zLo)))
def zSE (a b:Bool) (T:List Node) (hT:T.length≤1000000000) (hP:∀m ∈ T,PNode m) (hb:T.length≤60→∀x ∈ wH T,x<256) :
  ∃r:List Nat×Int,Om CC 30 [.t (.sl a b (T.map Node.c))] []=some (.val (nmV (if r.2=0 then zA4 T else [])),nmH (if r.2=0 then zA4 T else []))∧zEe T r:=by
 obtain⟨r,hr,ko⟩:=zXm a b T hP hb;refine⟨r,?_,ko⟩;clear hP hb ko;refine zL yHi rfl ?_
 by_cases he:r.2=0
 ·rw[if_pos he];have ke:(r.2==0)=true:=by simpa using he
  rw[ke] at hr;clear he ke;have k2:(T.map Node.c).length=T.length:=List.length_map ..;generalize hl:T.map Node.c=l at *
  (have F_:=xbD;show W CC 0 31 (zA 30) _ ⟨[(0,_)],[]⟩ _)
  (refine gA ?_)
  clear hr;refine yE (nmS a b l T.length) (fun x=>T.length - x.1) (fun x=>x.1≤T.length∧x.2.2=(T.take x.1).foldl addN []∧(x.2.1=false↔x.2.2=[])) (0,false,[]) (by simp only[nmS];exact aTd) ⟨Nat.zero_le _,rfl,by simp⟩ ?_;rintro⟨i,st,ht⟩ ⟨hi,ho,hz⟩;dsimp only at hi ho hz;simp only[nmS]
  by_cases hH:i<T.length
  ·have hw:=wI64 i (by omega);have hd:decide ((i:Int)<(T.length:Int))=true:=by simpa using hH
   obtain⟨n,hn⟩:∃n,T[i]?=some n:=⟨_,List.getElem?_eq_getElem hH⟩;have hN:=zI9 hn;rw[hl] at hN;have hf:=yAf hn;rw[← ho] at hf;have kg:ht.length≤1000000000:=by rw[ho];have:=zOZ (T.take i) [];simp only[List.length_nil,List.length_take] at this;omega
   have hU:lens 1 (ht.map strC)=true:=by unfold lens;rw[List.all_map];exact List.all_eq_true.2 fun x _=>rfl
   have kb:decide (ht.length+1<4294967296)=true:=by(rw[decide_eq_true_eq];omega)
   have hc:=zFp ht.isEmpty ht.isEmpty ht n.name (by omega);have k8:Hid (addN ht n=[]→ht=[]):=⟨fun h=>by unfold addN at h;split at h;simp at h;exact h⟩
   have k9:=Hid.mk hf.symm;unfold addN at hf;clear ho hn kg hl;cases hq:(n.op==2) with
   |false =>
    rw[if_neg (fun h=>by rw[h.1] at hq;exact absurd hq (by decide))] at hf;have hC:Hid _:=⟨And.intro hH (And.intro hf.symm hz)⟩
    clear hc hf hz;cases st<;>(refine gA ?_)
    ·exact zD (i+1,false,ht) (by dsimp only;omega) hC.h (by simp only[nmS];exact aTd)
    exact zD (i+1,true,ht) (by dsimp only;omega) hC.h (by simp only[nmS];exact aTd)
   |true =>
    have k3:n.op=2:=by simpa using hq
    cases hh:hasW n.name ht with
    |true =>
     rw[hh] at hc;rw[if_neg (fun h=>by rw[hh] at h;exact absurd h.2 (by decide))] at hf;have hC:Hid _:=⟨And.intro hH (And.intro hf.symm hz)⟩
     cases st with
     |true =>
      have:ht.isEmpty=false:=by cases ht with|nil=>exact absurd (hz.2 rfl) (by decide)|cons _ _=>rfl
      rw[this] at hc;clear this hf hz hh
      (refine gA ?_)
      exact zD (i+1,true,ht) (by dsimp only;omega) hC.h (by simp only[nmS];exact aTd)
     |false =>
      obtain rfl:=hz.1 rfl;clear hf hz;cases hh
    |false =>
     rw[hh] at hc;rw[if_pos ⟨k3,hh⟩] at hf;have hC:Hid _:=⟨And.intro hH (And.intro hf.symm (by simp:true=false↔ht++[n.name]=[]))⟩
     cases st with
     |true =>
      have:ht.isEmpty=false:=by cases ht with|nil=>exact absurd (hz.2 rfl) (by decide)|cons _ _=>rfl
      rw[this] at hc;clear this hf hz hh
      (refine gA ?_)
      exact zD (i+1,true,ht++[n.name]) (by dsimp only;omega) hC.h (by simp only[nmS];(have X_:=c2 @mapA @strC.eq_1;exact aTdX))
     |false =>
      obtain rfl:=hz.1 rfl;clear hf hz hh;simp only[List.isEmpty_nil,List.map_nil] at hc
      (refine gA ?_)
      exact zD (i+1,true,[]++[n.name]) (by dsimp only;omega) hC.h (by simp only[nmS];(have X_:=c2 @mapA @strC.eq_1;exact aTdX))
  have hd:decide ((i:Int)<(T.length:Int))=false:=by simpa using hH
  rw[List.take_of_length_le (by omega)] at ho;rw[show zA4 T=ht from ho.symm];clear ho hl;unfold nmV nmH;cases st with
  |true =>
   have:ht.isEmpty=false:=by cases ht with|nil=>exact absurd (hz.2 rfl) (by decide)|cons _ _=>rfl
   rw[this];clear this hz;generalize ht.map strC=O at *
   (refine gA ?_)
   (refine aK ?_ ?_)
   ·rfl
   rfl
  |false =>
   obtain rfl:=hz.1 rfl;clear hz
   (refine gA ?_)
   (refine aK ?_ ?_)
   ·rfl
   rfl
 rw[if_neg he];have ke:(r.2==0)=false:=by simpa using he
 rw[ke] at hr;generalize T.map Node.c=l at *;clear he ke
 (have F_:=xbD;show W CC 0 31 (zA 30) _ ⟨[(0,_)],[]⟩ _)
 (refine gA ?_)
 (refine aK ?_ ?_)
 ·rfl
 rfl
def unS(a b:Bool)(l:List (List Tree))(len:Nat)(x:Nat×Bool×List (List Nat)):St :=
 ⟨[(2,match x.2.1 with|true=>.hs 0 0|false=>.t (.sl true true [])),(10,.t (.sl a b l)),(11,.t (.int .i64 (len:Int))),(12,.t (.int .i64 (x.1:Int)))],
  match x.2.1 with|true=>[.arr 1 0 false (x.2.2.map strC)]|false=>[]⟩
def unI(a b:Bool)(l:List (List Tree))(len i:Nat)(M:List (List Nat))(x:Nat×Bool×List (List Nat)):St :=
 ⟨[(2,match x.2.1 with|true=>.hs 0 0|false=>.t (.sl true true [])),(10,.t (.sl a b l)),(11,.t (.int .i64 (len:Int))),(12,.t (.int .i64 (i:Int))),(22,match x.2.1 with|true=>.hs 1 0|false=>.hs 0 0),(23,.t (.int .i64 (M.length:Int))),(24,.t (.int .i64 (x.1:Int)))],
  match x.2.1 with|true=>[.arr 1 0 false (x.2.2.map strC),.arr 1 0 false (M.map strC)]|false=>[.arr 1 0 false (M.map strC)]⟩
structure UnP (T:List Test) (N:Test→List (List Nat)) (x:Nat×Bool×List (List Nat)):Prop where
 le:x.1≤T.length
 len:x.2.2.length≤120 * x.1
 st:x.2.1=false↔x.2.2=[]
 mem:∀j y,j<x.1→T[j]?=some y→∀w ∈ N y,w ∈ x.2.2
structure UnQ (i:Nat) (M ht:List (List Nat)) (x:Nat×Bool×List (List Nat)):Prop where
 le:x.1≤M.length
 len:x.2.2.length≤120 * i+x.1
 st:x.2.1=false↔x.2.2=[]
 sub:∀w ∈ ht,w ∈ x.2.2
 mem:∀j w,j<x.1→M[j]?=some w→w ∈ x.2.2
def zOY{w:List Nat}{l:List (List Nat)}(h:hasW w l=true):w ∈ l:=by
 unfold hasW at h;rw[List.any_eq_true] at h;obtain⟨x,hx,h⟩:=h;rw[of_decide_eq_true h];exact hx
theorem UnQ.has{i:Nat}{M ht:List (List Nat)}{j:Nat}{s:Bool}{o:List (List Nat)}(h:UnQ i M ht (j,s,o)){w:List Nat}(hw:M[j]?=some w)(hh:hasW w o=true):UnQ i M ht (j+1,s,o) :=
 ⟨(List.getElem?_eq_some_iff.1 hw).1,by have:=h.len;dsimp only at *;omega,h.st,h.sub,fun k x hk hx=>by
  rcases Nat.lt_succ_iff_lt_or_eq.1 hk with h1|rfl
  ·exact h.mem k x h1 hx
  rw[hw] at hx;injection hx with hx;subst hx;exact zOY hh⟩
theorem UnQ.add{i:Nat}{M ht:List (List Nat)}{j:Nat}{s:Bool}{o:List (List Nat)}(h:UnQ i M ht (j,s,o)){w:List Nat}(hw:M[j]?=some w):UnQ i M ht (j+1,true,o++[w]) :=
 ⟨(List.getElem?_eq_some_iff.1 hw).1,by have:=h.len;dsimp only at *;simp only[List.length_append,List.length_singleton];omega,by simp,fun x hx=>List.mem_append_left _ (h.sub x hx),fun k x hk hx=>by
  rcases Nat.lt_succ_iff_lt_or_eq.1 hk with h1|rfl
  ·exact List.mem_append_left _ (h.mem k x h1 hx)
  rw[hw] at hx;injection hx with hx;subst hx;simp⟩
theorem UnQ.done{T:List Test}{N:Test→List (List Nat)}{i:Nat}{x:Test}{M ht:List (List Nat)}{s0:Bool}(h0:UnP T N (i,s0,ht))(hx:T[i]?=some x)(hM:M.length≤120)(hN:N x=M){s:Bool}{o:List (List Nat)}(h:UnQ i M ht (M.length,s,o)):UnP T N (i+1,s,o) :=
 ⟨(List.getElem?_eq_some_iff.1 hx).1,by have:=h.len;dsimp only at *;omega,h.st,fun k y hk hy w hw=>by
  rcases Nat.lt_succ_iff_lt_or_eq.1 hk with h1|rfl
  ·exact h.sub w (h0.mem k y h1 hy w hw)
  rw[hx] at hy;injection hy with hy;subst hy
  rw[hN] at hw;obtain⟨j,hj,rfl⟩:=List.getElem_of_mem hw;exact h.mem j _ hj (List.getElem?_eq_getElem hj)⟩
def zNB(l:List (List Nat)):lens 1 (l.map strC)=true:=by unfold lens;rw[List.all_map];exact List.all_eq_true.2 fun x _=>rfl
def zR2 (a b:Bool) (T:List Test) (hT:T.length≤30) (hM:Om CC 15 [.t (.sl a b (T.map Test.c))] []=some (.val (.t (.bool true)),[])) (NA NB:Test→List (List Nat))
  (hN:∀x ∈ T,Om CC 30 [.t (x.a.t Node.c)] []=some (.val (nmV (NA x)),nmH (NA x))∧Om CC 30 [.t (x.b.t Node.c)] []=some (.val (nmV (NB x)),nmH (NB x))∧(NA x).length≤60∧(NB x).length≤60) :
  ∃ht:List (List Nat),Om CC 16 [.t (.sl a b (T.map Test.c))] []=some (.val (.t (nmT ht)),[])∧ht.length≤3600∧∀x ∈ T,∀w ∈ NA x++NB x,w ∈ ht:=by
 refine zJ yGF rfl ?_;have k2:(T.map Test.c).length=T.length:=List.length_map ..;generalize hl:T.map Test.c=l at *
 (have F_:=c5 zF zG zP zE (c5 zC zB zO zK (c5 yV xC zM yR (c5 zI yIn zJl yIQ zLo)));show W CC 0 39 (zA 16) _ ⟨[(0,_)],[]⟩ _)
 (refine gA ?_)
 clear hM;refine yE (unS a b l T.length) (fun x=>T.length - x.1) (UnP T fun x=>NA x++NB x) (0,false,[]) (by simp only[unS];exact aTd) ⟨Nat.zero_le _,Nat.zero_le _,by simp,fun j y h=>absurd h (Nat.not_lt_zero _)⟩ ?_;rintro⟨i,st,ht⟩ hP;obtain⟨hi,hJ,hz,hV⟩:=id hP;dsimp only at hi hJ hz hV;simp only[unS]
 by_cases hH:i<T.length
 ·have hw:=wI64 i (by omega);have hd:decide ((i:Int)<(T.length:Int))=true:=by simpa using hH
  obtain⟨x,hx⟩:∃x,T[i]?=some x:=⟨_,List.getElem?_eq_getElem hH⟩;obtain⟨na,nb,la,lb⟩:=hN x (List.mem_of_getElem? hx);have hX:l[i]?=some x.c:=by rw[← hl,List.getElem?_map,hx];rfl
  have hD:=Hid.mk (@UnQ.done T (fun x=>NA x++NB x) i x (NA x++NB x) ht st hP hx (by rw[List.length_append];omega) rfl);have hZ:Hid (∀w ∈ ht,w ∈ ht):=⟨fun _ h=>h⟩
  have hP:=Hid.mk hP;clear hN hV hl;obtain⟨op,⟨an,ac,al⟩,⟨bn,bc,bl⟩,lo,hg,⟨kn,kc,kl⟩,ln,cl⟩:=x;simp only[Test.c,Sl.t] at hX na nb;generalize k4:NA _=A at *;generalize k5:NB _=B at *;clear k4 k5 hx;generalize al.map Node.c=al' at *;generalize bl.map Node.c=bl' at *;generalize kl.map intC=kl' at *;have h4:Hid (A=[]→B=[]→UnP T (fun x=>NA x++NB x) (i+1,st,ht)):=⟨fun h1 h2=>by subst h1 h2;exact hD.h ⟨Nat.le_refl _,by dsimp only;omega,hz,fun _ h=>h,fun j w hj=>absurd hj (Nat.not_lt_zero _)⟩⟩
  have kp:Hid (UnQ i (A++B) ht (0,st,ht)):=⟨⟨Nat.zero_le _,by dsimp only;omega,hz,fun _ h=>h,fun j w hj=>absurd hj (Nat.not_lt_zero _)⟩⟩
  have kg:ht.length≤3600:=by omega
  have kr:(A++B).length≤120:=by rw[List.length_append];omega
  have hz:=Hid.mk hz;rcases A with _|⟨a0,A⟩<;>rcases B with _|⟨b0,B⟩
  ·have hC:=h4.h rfl rfl;clear h4 kp hD hP hZ hz hJ;simp only[nmV,nmH,List.isEmpty_nil] at na nb;have hC:=Hid.mk hC;cases st<;>(repeat' first|refine gA ?_|refine gT ?_ ?_<;>intro hv<;>try cases hv;done|refine aI ?_|fail)
   ·exact zD (i+1,false,ht) (by dsimp only;omega) hC.h (by simp only[unS];exact aTd)
   exact zD (i+1,true,ht) (by dsimp only;omega) hC.h (by simp only[unS];exact aTd)
  obtain⟨M,h5,hM,hL⟩:∃M,M=[]++(b0::B)∧M.map strC=[.str b0]::B.map strC∧M.length=B.length+1:=⟨_,rfl,rfl,rfl⟩;have l1:((B.map strC).all fun e=>e.length.beq 1)=true:=zNB B;have s1:decide (B.length+1<4294967296)=true:=by(rw[decide_eq_true_eq];rw[← h5] at kr;omega)
  rotate_left
  obtain⟨M,h5,hM,hL⟩:∃M,M=(a0::A)++[]∧M.map strC=[.str a0]::A.map strC∧M.length=A.length+1:=⟨_,rfl,by rw[List.append_nil];rfl,by rw[List.append_nil];rfl⟩;have s1:decide (A.length+1<4294967296)=true:=by(rw[decide_eq_true_eq];rw[← h5] at kr;omega)
  rotate_left
  obtain⟨M,h5,hM,hL⟩:∃M,M=(a0::A)++(b0::B)∧M.map strC=[.str a0]::(A.map strC++[.str b0]::B.map strC)∧M.length=A.length+(B.length+1)+1:=⟨_,rfl,by rw[List.map_append];rfl,by simp only[List.length_append,List.length_cons];omega⟩;have l1:((B.map strC).all fun e=>e.length.beq 1)=true:=zNB B;have s1:decide (A.length+1+(B.length+1)<4294967296)=true:=by(rw[decide_eq_true_eq];rw[← h5] at kr;omega)
  rotate_left
  all_goals
   clear h4 hP hZ;simp only[nmV,nmH,List.isEmpty_nil,List.isEmpty_cons,List.map_cons,strC] at na nb;rw[← h5] at kp hD kr;clear h5
  all_goals
   cases st
   all_goals
    (have x0_:=@Nat.sub_self;have x1_:=@List.length_append.{0};(refine gA ?_);all_goals clear x0_ x1_)
    refine yE (unI a b l T.length i M) (fun x=>M.length - x.1) (UnQ i M ht) (0,_,ht) (by simp only[unI,hM,hL];exact aTd) kp.h ?_;clear kp hz na nb s1 hM hL
    try clear l1
    rintro⟨j,st,hA⟩ hQ;obtain⟨hj,hS,hF,-,-⟩:=id hQ;dsimp only at hj hS hF;simp only[unI]
    by_cases kh:j<M.length
    ·have ma:=wI64 j (by omega);have h6:decide ((j:Int)<(M.length:Int))=true:=by simpa using kh
     obtain⟨w,kt⟩:∃w,M[j]?=some w:=⟨_,List.getElem?_eq_getElem kh⟩;have hE:nth (M.map strC) j=some [.str w]:=by rw[yP,List.getElem?_map,kt];rfl
     have l0:((0:Int)≤(j:Int))=True:=by simp
     have l1:((j:Int)<(((M.map strC).length:Nat):Int))=True:=by rw[List.length_map];simpa using kh
     have hc:=zFp hA.isEmpty hA.isEmpty hA w (by omega);have kb:decide (hA.length+1<4294967296)=true:=by(rw[decide_eq_true_eq];omega)
     have h7:=Hid.mk (hQ.add kt);have h8:=Hid.mk (hQ.has kt);have kw:Hid (M.length - (j+1)<M.length - j):=⟨by omega⟩
     clear hQ kt kh hj hS hD hJ;generalize ki:M.map strC=E at *;have ki:=Hid.mk ki;cases hh:hasW w hA with
     |true =>
      rw[hh] at hc;have hC:=Hid.mk (h8.h hh);clear h7 h8;cases st with
      |true =>
       rw[show hA.isEmpty=false from by cases hA with|nil=>exact absurd (hF.2 rfl) (by decide)|cons _ _=>rfl] at hc;clear hF hh
       (refine gA ?_)
       exact zD (j+1,true,hA) kw.h hC.h (by simp only[unI,ki.h];exact aTd)
      |false=>(obtain rfl:=hF.1 rfl);cases hh
     |false =>
      rw[hh] at hc;have hC:=Hid.mk h7.h;clear h7 h8;cases st with
      |true =>
       rw[show hA.isEmpty=false from by cases hA with|nil=>exact absurd (hF.2 rfl) (by decide)|cons _ _=>rfl] at hc;clear hF hh
       (refine gA ?_)
       exact zD (j+1,true,hA++[w]) kw.h hC.h (by simp only[unI,ki.h];(have X_:=c2 @mapA @strC.eq_1;exact aTdX))
      |false =>
       obtain rfl:=hF.1 rfl;clear hF hh;simp only[List.isEmpty_nil,List.map_nil] at hc
       (refine gA ?_)
       exact zD (j+1,true,[]++[w]) kw.h hC.h (by simp only[unI,ki.h];(have X_:=c2 @mapA @strC.eq_1;exact aTdX))
    obtain rfl:j=M.length:=by omega
    have h6:decide ((M.length:Int)<(M.length:Int))=false:=by simp
    have hC:=Hid.mk (hD.h hQ);clear hQ hD hj kh hS hJ;generalize M.map strC=E at *
    (refine gA ?_)
    exact zD (i+1,st,hA) (by dsimp only;omega) hC.h (by simp only[unS];cases st<;>exact aTd)
 have hd:decide ((i:Int)<(T.length:Int))=false:=by simpa using hH
 have hW:∀x ∈ T,∀w ∈ NA x++NB x,w ∈ ht:=fun x hx w hw=>by
  obtain⟨j,hj,rfl⟩:=List.getElem_of_mem hx;exact hV j _ (by omega) (List.getElem?_eq_getElem hj) w hw
 have kg:ht.length≤3600:=by omega
 have hW:=Hid.mk (And.intro kg hW);clear hN hV hl hP hJ kg;cases st with
 |true =>
  have:ht.isEmpty=false:=by cases ht with|nil=>exact absurd (hz.2 rfl) (by decide)|cons _ _=>rfl
  have k6:Hid (AV.t (nmT ht)=.t (.sl false false (ht.map strC))):=⟨by unfold nmT;rw[this]⟩
  clear this hz;generalize ht.map strC=O at *
  (refine gA ?_)
  (refine aJ ?_)
  exact⟨ht,⟨congrArg Out.val k6.h.symm,rfl⟩,hW.h⟩
 |false =>
  obtain rfl:=hz.1 rfl;clear hz
  (refine gA ?_)
  (refine aJ ?_)
  exact⟨[],⟨rfl,rfl⟩,hW.h⟩
def zUk{name:List Nat}{o:Bind}{l:List Bind}(h:o.name≠name):varA name (o::l)=varA name l:=by
 have hb:beqL o.name name=false:=by rw[wV];simpa using h
 unfold varA;rw[List.findIdx?_cons];simp only[hb];cases hf:l.findIdx? (fun b=>beqL b.name name) with
 |none=>rfl
 |some i=>simp [List.getD]
def NoNm(w:List Nat)(ns:List SNode):Prop:=∀n ∈ ns,n.op=2→w≠n.name
def zRJ{al:List Ans}{ns:List SNode}{x:SNode}{self:Val}{o:Bind}{vars:List Bind}(h:x.op=2→o.name≠x.name):zDh al ns x self (o::vars)=zDh al ns x self vars:=by
 have hl:qF x.op x.v x.name self (o::vars)=qF x.op x.v x.name self vars:=by
  unfold qF
  by_cases h2:x.op=2
  ·rw[zUk (h h2)]
  simp only[if_neg h2]
 unfold zDh;rw[hl]
def zLJ{ns:List SNode}{self:Val}{o:Bind}{vars:List Bind}(h:NoNm o.name ns):∀i,wN ns self (o::vars) i=wN ns self vars i
 |0=>rfl
 |i+1=>by
  rw[wN,wN,zLJ h i];cases hx:ns[i]? with
  |none=>rfl
  |some x=>dsimp only;rw[zRJ (h x (List.mem_of_getElem? hx))]
def zRE{ns:List SNode}{self:Val}{o:Bind}{vars:List Bind}(h:NoNm o.name ns):vG ns self (o::vars)=vG ns self vars:=by unfold vG;rw[zLJ h]
def zIa{w:List Nat}{op:Int}{l:List SNode}(h:NoNm w l)(ho:op≠2):NoNm w (vJ op l):=by
 intro n hn h2;simp only[vJ,List.mem_append,List.mem_cons,List.not_mem_nil,or_false] at hn;rcases hn with hn|rfl|rfl
 ·exact h n hn h2
 ·exact absurd h2 (by decide)
 exact absurd h2 ho
def zUr{op s:Int}(h:jZ op=some s):s≠2:=by
 unfold jZ at h
 repeat' split at h
 all_goals first|(cases h;done)|(injection h with h;omega)
def zW5{w:List Nat}{x:STst}(ha:NoNm w x.a)(hb:NoNm w x.b):∀p ∈ zC6 x,NoNm w (vJ p.1 p.2):=by
 intro p hp;unfold zC6 at hp;split at hp
 ·simp only[List.mem_cons,List.not_mem_nil,or_false] at hp;rcases hp with rfl|rfl
  ·exact zIa ha (by dsimp only;split<;>omega)
  exact zIa hb (by dsimp only;split<;>omega)
 split at hp
 ·rename_i s hs;rw[List.mem_singleton] at hp;subst hp;exact zIa ha (zUr hs)
 cases hp
def zSc{ts:List STst}{self:Val}{o:Bind}{vars:List Bind}(h:∀x ∈ ts,NoNm o.name x.a∧NoNm o.name x.b):xH ts self (o::vars)=xH ts self vars:=by
 have hm:∀x ∈ ts,zHG x self (o::vars)=zHG x self vars:=fun x hx=>by
  unfold zHG;exact List.map_congr_left fun p hp=>zRE (zW5 (h x hx).1 (h x hx).2 p hp)
 have hn:∀i,qS ts self (o::vars) i=qS ts self vars i:=by
  intro i
  induction i with
  |zero=>rfl
  |succ i ih =>
   rw[qS,qS,ih];cases hx:ts[i]? with
   |none=>rfl
   |some x=>dsimp only;unfold qR;rw[hm x (List.mem_of_getElem? hx)]
 unfold xH;rw[hn]
def zWR(l:List (List Nat))(n:Node):∀w ∈ l,w ∈ addN l n:=fun w h=>by unfold addN;split;exact List.mem_append_left _ h;exact h
def zVB(T:List Node):∀(l:List (List Nat)),∀w ∈ l,w ∈ T.foldl addN l:=by
 induction T with
 |nil=>exact fun _ _ h=>h
 |cons n r ih=>exact fun l w h=>ih (addN l n) w (zWR l n w h)
def zNN{T:List Node}{n:Node}(h:n ∈ T)(h2:n.op=2):∀l:List (List Nat),n.name ∈ T.foldl addN l:=by
 induction T with
 |nil=>cases h
 |cons x r ih =>
  intro l;rcases List.mem_cons.1 h with rfl|h
  ·refine zVB r _ _ ?_;unfold addN;cases hh:hasW n.name l with
   |true=>rw[if_neg (fun q=>by cases q.2)];exact zOY hh
   |false=>rw[if_pos ⟨h2,rfl⟩];simp
  exact ih h _
def zWU{s:List Nat}(hs:∀c ∈ s,c<256)(mb:s.length≤300){T:List Test}(h:ReadOK vpF s T):∃ht:List (List Nat),Om CC 16 [.t (wL T)] []=some (.val (.t (nmT ht)),[])∧ht.length≤3600 ∧
  ∀(o:Bind) (self:Val) (vars:List Bind),(∀w ∈ ht,w≠o.name)→xH (T.map Test.s) self (o::vars)=xH (T.map Test.s) self vars:=by
 obtain⟨L,u,hL,hu,hT⟩:=zNf (by omega) h;have hP:=zHC hs hL hu hT;obtain⟨t1,t1r,t1p⟩:=zIh T.isEmpty T.isEmpty T hP;rw[zHw hs hL hu hT t1p] at t1r;have kx:=zRw (r:=(u.tx,0)) t1r;have ex:∀N:Sl Node,((∀m ∈ N.l,PNode m)∧(N.l.length≤60→∀c ∈ wH N.l,c<256)∧N.l.length≤1000000000)→(N.l.map Node.s=[]∨∃e,EOK L e∧e.tl≤65536∧N.l.map Node.s=e.ns)→Om CC 30 [.t (N.t Node.c)] []=some (.val (nmV (zA4 N.l)),nmH (zA4 N.l))∧(zA4 N.l).length≤60:=by
  intro N ⟨p1,p2,p3⟩ hN;obtain⟨r,hr,hx⟩:=zSE N.nl N.cl N.l p3 p1 p2;have hU:(zA4 N.l).length≤N.l.length:=by have:=zOZ N.l [];simpa [zA4] using this
  rcases hN with hN|⟨e,h1,h2,h3⟩
  ·rw[List.map_eq_nil_iff] at hN
   show Om CC _ [.t (.sl N.nl N.cl (N.l.map Node.c))] []=_∧_
   rw[hN] at hr hU ⊢;rw[show (if r.2=0 then zA4 [] else [])=zA4 [] by split<;>rfl] at hr;exact⟨hr,by simp at hU;rw[hU];simp⟩
  rw[zEW hs hL h1 h2 h3 hx,if_pos rfl] at hr;have:=congrArg List.length h3;rw[List.length_map] at this;exact⟨hr,by have:=h1.few;omega⟩
 have ko:∀x ∈ T,TP L x.s:=fun x hx=>UT.tp u [] hu.wf (Nat.le_trans hu.tl (by decide)) (by have:=hu.few;omega) (fun _ h=>by cases h) x.s (by rw[← hT];exact List.mem_map.2 ⟨x,hx,rfl⟩)
 obtain⟨ht,q1,q2,q3⟩:=zR2 T.isEmpty T.isEmpty T (by have:=congrArg List.length hT;rw[List.length_map] at this;have:=hu.few;omega) kx (fun x=>zA4 x.a.l) (fun x=>zA4 x.b.l) (fun x hx=>by
  obtain⟨a1,a2,a3,a4⟩:=ko x hx;have hp:=hP x hx;obtain⟨y1,y2⟩:=ex x.a ⟨hp.a.2.1,hp.a.2.2,hp.a.1⟩ a2;obtain⟨z1,z2⟩:=ex x.b ⟨hp.b.2.1,hp.b.2.2,hp.b.1⟩ a3;exact⟨y1,z1,y2,z2⟩)
 refine⟨ht,q1,q2,fun o self vars ho=>zSc fun y hy=>?_⟩;obtain⟨x,hx,rfl⟩:=List.mem_map.1 hy;have hq:=q3 x hx;refine⟨fun n hn h2 he=>?_,fun n hn h2 he=>?_⟩
 ·obtain⟨m,hm,rfl⟩:=List.mem_map.1 hn;exact ho _ (hq m.name (List.mem_append_left _ (zNN hm h2 []))) he.symm
 obtain⟨m,hm,rfl⟩:=List.mem_map.1 hn;exact ho _ (hq m.name (List.mem_append_right _ (zNN hm h2 []))) he.symm
def xbE:=c5 zF zG zP zE (c5 zC zB zAg zO (c5 zK zR yV zAh (c5 xC zM yR zI (c5 zOM zGw zOz zBh (c3 zLF zDe @zAW)))))
def zSf (s:List Nat) (self:Val) (nl cl:Bool) (vars:List Bind) (o:Bind) (h9:∀b ∈ s,b<256)
  (hn:R64 self.n) (hv:∀b ∈ vars,R64 b.v.n) (kd:R64 o.v.n) (ka:vars.length<9223372036854775808) :
  Om CC 6 [.t (.str s),.t (.agg [.int .u8 self.k,.int .i64 self.n,.str self.s]),.t (.sl nl cl (vars.map Bind.c)),.t (.agg [.str o.name,.int .u8 o.v.k,.int .i64 o.v.n,.str o.v.s])] []=some (.val (.t (.bool true)),[]):=by
 refine zL yIe rfl ?_;have k7:=zQG;obtain⟨lo,ky,hI⟩:=zWk self nl cl vars ka
 by_cases h1:300<s.length
 ·have k0:decide ((s.length:Int) > 300)=true:=by simp;omega
  clear h9 hn hv kd ka ky hI h1;obtain⟨sk,sn,ss⟩:=self;obtain⟨on,ok,on2,os⟩:=o
  (have F_:=xbE;show W CC 0 83 (zA 6) _ ⟨[(0,_),(1,_),(2,_),(3,_)],[]⟩ _)
  (refine gA ?_)
  all_goals refine aK ?_ ?_<;>(first|rfl)
 have k0:decide ((s.length:Int) > 300)=false:=by simp;omega
 cases lo with
 |true =>
  clear h9 hn hv kd ka hI h1;obtain⟨sk,sn,ss⟩:=self;obtain⟨on,ok,on2,os⟩:=o
  (have F_:=xbE;show W CC 0 83 (zA 6) _ ⟨[(0,_),(1,_),(2,_),(3,_)],[]⟩ _)
  (refine gA ?_)
  all_goals refine aK ?_ ?_<;>(first|rfl)
 |false =>
  by_cases h2:300<o.v.s.length
  ·have h6:decide (((o.v.s.length:Nat):Int) > 300)=true:=by simp;omega
   clear h9 hn hv kd ka hI h1 h2;obtain⟨sk,sn,ss⟩:=self;obtain⟨on,ok,on2,os⟩:=o;dsimp only at h6
   (have F_:=xbE;show W CC 0 83 (zA 6) _ ⟨[(0,_),(1,_),(2,_),(3,_)],[]⟩ _)
   (refine gA ?_)
   all_goals refine aK ?_ ?_<;>(first|rfl)
  have h6:decide (((o.v.s.length:Nat):Int) > 300)=false:=by simp;omega
  obtain⟨q1,q2,q3⟩:=hI rfl;have ku:VOK self:=⟨hn,by omega⟩
  have hY:∀b ∈ vars,VOK b.v:=fun b hb=>⟨hv b hb,by have:=q3 b hb;omega⟩
  have kz:∀b ∈ o::vars,VOK b.v:=fun b hb=>by
   rcases List.mem_cons.1 hb with rfl|hb
   ·exact⟨kd,by omega⟩
   exact hY b hb
  obtain⟨T1,p1,e1,r1,k1,-⟩:=zBu zFN zC5 s h9 (by omega)
  by_cases z1:e1=0
  ·subst z1;have hR:=k1 rfl;obtain⟨ht,u1,u2,u3⟩:=zWU h9 (by omega) hR;have c1:=zFX T1.isEmpty T1.isEmpty T1 self nl cl vars hR.len hR.tok ku hY ka;have c2:=zFX T1.isEmpty T1.isEmpty T1 self false false (o::vars) hR.len hR.tok ku kz (by simp only[List.length_cons];omega);have hG:Hid _:=⟨fun h=>u3 o self vars h⟩
   have hU:((vars.map Bind.c).all fun e=>e.length.beq 4)=true:=qM Bind.c 4 (fun a=>rfl) vars;have kb:decide (1+(vars.map Bind.c).length<4294967296)=true:=by(rw[decide_eq_true_eq,List.length_map];omega)
   simp only[wL,nmT,List.map_cons,Bind.c,Val.c] at r1 u1 c1 c2;have kj:Hid (∀i w,ht[i]?=some w→(ht.map strC)[i]?=some [Tree.str w]):=⟨fun i w h=>by rw[List.getElem?_map,h];rfl⟩
   have hz:((ht.map strC).length:Int)=(ht.length:Int):=by rw[List.length_map]
   clear h9 hn hv kd ka hI h1 h2 q1 q2 q3 ku hY kz k1 hR u3;generalize xH (T1.map Test.s) self (o::vars)=R2 at c2 hG;generalize xH (T1.map Test.s) self vars=R1 at c1 hG;generalize T1.isEmpty=n1 at *;generalize T1.map Test.c=l1 at *;generalize vars.map Bind.c=V at *;generalize hO:ht.map strC=O at *;generalize ht.isEmpty=oe at *;obtain⟨sk,sn,ss⟩:=self;obtain⟨on,ok,on2,os⟩:=o;obtain⟨⟨rk,rn,rs⟩,re⟩:=R1;dsimp only at h6 c1 c2 ky hG;have c1:=Hid.mk c1;have c2:=Hid.mk c2;have kk:=Hid.mk u2;have hO:=Hid.mk hO;have hU:=Hid.mk hU;have kb:=Hid.mk kb;clear u2
   (have F_:=xbE;show W CC 0 83 (zA 6) _ ⟨[(0,_),(1,_),(2,_),(3,_)],[]⟩ _)
   (refine gA ?_)
   clear k0 h6 ky r1 u1;refine yE (α:=Nat) (fun i=>⟨[(2,.t (.sl nl cl V)),(5,.box 0 0),(7,.box 1 0),(9,.t (.sl n1 n1 l1)),(43,.t (.sl oe oe O)),(44,.t (.int .i64 (ht.length:Int))),(45,.t (.int .i64 (i:Int)))],[.box [.t (.int .u8 sk),.t (.int .i64 sn),.t (.str ss)],.box [.t (.str on),.t (.int .u8 ok),.t (.int .i64 on2),.t (.str os)]]⟩) (fun i=>ht.length - i) (fun i=>i≤ht.length∧∀j w,j<i→ht[j]?=some w→w≠on) 0 (by exact aTd) ⟨Nat.zero_le _,fun j w h=>absurd h (Nat.not_lt_zero _)⟩ ?_;rintro i ⟨hi,km⟩;clear hz
   by_cases hH:i<ht.length
   ·have hw:=wI64 i (by have:=kk.h;omega);have hd:decide ((i:Int)<(ht.length:Int))=true:=by simpa using hH
    obtain⟨w,kv⟩:∃w,ht[i]?=some w:=⟨_,List.getElem?_eq_getElem hH⟩;have hE:=kj.h i w kv;cases hb:beqL w on with
    |true =>
     clear km kv hi
     (refine gA ?_)
     all_goals refine aK ?_ ?_<;>(rfl)
    |false =>
     have hC:Hid (i+1≤ht.length∧∀j v,j<i+1→ht[j]?=some v→v≠on):=⟨hH,fun j v hj hv=>by
      rcases Nat.lt_succ_iff_lt_or_eq.1 hj with h|rfl
      ·exact km j v h hv
      rw[kv] at hv;injection hv with hv;subst hv;intro h;subst h;rw[wV] at hb;simp at hb⟩
     clear km kv hi k7
     (refine gA ?_)
     exact zD (i+1) (by omega) hC.h (by exact aTd)
   have hd:decide ((i:Int)<(ht.length:Int))=false:=by simpa using hH
   have he:R2=⟨⟨rk,rn,rs⟩,re⟩:=hG.h fun w hw=>by
    obtain⟨j,hj,rfl⟩:=List.getElem_of_mem hw;exact km j _ (by omega) (List.getElem?_eq_getElem hj)
   subst he;have c1:=c1.h;have c2:=c2.h;have hU:=hU.h;have kb:=kb.h;have mc:decide ((⟨rk,rn,rs⟩:Val)=⟨rk,rn,rs⟩)=true:=decide_eq_true rfl;have md:(re==re)=true:=by simp
   dsimp only at c2;clear km hi hH kj hG hO kk
   (refine gA ?_)
   all_goals refine aK ?_ ?_<;>(rfl)
  have y1:(e1 != 0)=true:=by simpa using z1
  have z1:(e1==0)=false:=by simpa using z1
  clear h9 hn hv kd ka hI h1 h2 q1 q2 q3 ku hY kz k1;simp only[wL] at r1;obtain⟨sk,sn,ss⟩:=self;obtain⟨on,ok,on2,os⟩:=o;dsimp only at h6
  (have F_:=xbE;show W CC 0 83 (zA 6) _ ⟨[(0,_),(1,_),(2,_),(3,_)],[]⟩ _)
  (refine gA ?_)
  all_goals refine aK ?_ ?_<;>(first|rfl)
end Go.Ab
