/- Lemmas. -/
import Derived.Test.YtdbfacakphncfaaGreatDoorG33
set_option maxRecDepth 1000000
set_option maxHeartbeats 40000000
set_option linter.all false
namespace Go.Ab
open Go.Proofs
attribute [local irreducible] W RW RR
def uO(X:List (List Nat))(i:Nat):List Int→List (List Nat)
 |[]=>[]
 |c::r=>if 0≤c∧c<(i:Int) then X.getD c.toNat []::uO X i r else uO X i r
def zN8{X:List (List Nat)}{i:Nat}:∀ {l:List Int} {j:Nat} {c:Int},l[j]?=some c→uO X i (l.take (j+1))=uO X i (l.take j)++(if 0≤c∧c<(i:Int) then [X.getD c.toNat []] else [])
 |[],j,c,h=>by simp at h
 |d::l,0,c,h=>by
  simp only[List.getElem?_cons_zero,Option.some.injEq] at h;subst h;simp only[List.take_succ_cons,List.take_zero,uO];split<;>rfl
 |d::l,j+1,c,h=>by
  have:=zN8 (X:=X) (i:=i) (l:=l) (j:=j) (c:=c) (by simpa using h);simp only[List.take_succ_cons,uO] at this ⊢;rw[this];split<;>rfl
def zLm(X:List (List Nat))(i:Nat):∀l:List Int,(uO X i l).length≤l.length
 |[]=>Nat.le_refl 0
 |c::l=>by have:=zLm X i l;unfold uO;split<;>simp<;>omega
def zHE{X:List (List Nat)}{i:Nat}(hX:∀s ∈ X,s.length≤65536):∀(l:List Int),∀s ∈ uO X i l,s.length≤65538
 |[],s,h=>by cases h
 |c::l,s,h=>by
  unfold uO at h;split at h
  ·rcases List.mem_cons.1 h with rfl|h
   ·rw[List.getD];cases hc:X[c.toNat]? with
    |none=>simp
    |some y=>have:=hX y (List.mem_of_getElem? hc);simp;omega
   exact zHE hX l s h
  exact zHE hX l s h
def utS'(op:Int)(anl acl bnl bcl lo hb knl kcl:Bool)(line col:Int)(NA NB Kl E:List (List Tree))(i len:Nat)(A B:List Nat)(y:Nat×Bool×List (List Nat)):St :=
 ⟨[(1,.t (.int .i64 (i:Int))),(2,.t (.sl false false E)),(7,.box 0 0),(8,.t (.str A)),(10,.t (.str B)),(12,match y.2.1 with|true=>.hs 1 0|false=>.t (.sl true true [])),(37,.t (.sl knl kcl Kl)),(38,.t (.int .i64 (len:Int))),(39,.t (.int .i64 (y.1:Int)))],
  match y.2.1 with
  |true=>[.box [.t (.int .u8 op),.t (.sl anl acl NA),.t (.sl bnl bcl NB),.t (.bool lo),.t (.bool hb),.t (.sl knl kcl Kl),.t (.int .i64 line),.t (.int .i64 col)],.arr 1 0 false (y.2.2.map sC)]
  |false=>[.box [.t (.int .u8 op),.t (.sl anl acl NA),.t (.sl bnl bcl NB),.t (.bool lo),.t (.bool hb),.t (.sl knl kcl Kl),.t (.int .i64 line),.t (.int .i64 col)]]⟩
def uwF(op:Int)(A B al LW HW J:List Nat):List Nat :=
 match op==1 with
 |true=>[45]
 |false=>match op==2 with
  |true=>al
  |false=>match op==7 with
   |true=>LW++A++[32,46,46,32]++B++HW
   |false=>match op==8 with
    |true=>[110,111,116,40]++J++[41]
    |false=>match op==9 with
     |true=>J
     |false=>match (3:Int)==op with
      |true=>[60]++[32]++A
      |false=>match (4:Int)==op with
       |true=>[60,61]++[32]++A
       |false=>match (5:Int)==op with
        |true=>[62]++[32]++A
        |false=>match (6:Int)==op with
         |true=>[62,61]++[32]++A
         |false=>[]
def UwP(T:List Test)(X:List (List Nat))(i:Nat)(x:Test)(r:List Nat):Prop :=
 ∃(A B:List Nat×Int) (al:List Nat),zEe x.a.l A∧zEe x.b.l B∧zIf x A.1 al∧r=uwF x.op A.1 B.1 al (if x.low then [40] else [91]) (if x.high then [41] else [93]) (wF (uO X i x.kids.l) [44,32])
def zPB (a b:Bool) (T:List Test) (X:List (List Nat)) (i:Nat) (x:Test) (hx:T[i]?=some x) (hX:X.length=T.length) (hs:∀s ∈ X,s.length≤65536) (hp:PTest x) :
  ∃r:List Nat,Om CC 25 [.t (.sl a b (T.map Test.c)),.t (.int .i64 (i:Int)),.t (.sl false false (X.map sC))] []=some (.val (.t (.str r)),[])∧(Byt r∧UwP T X i x r):=by
 obtain⟨op,⟨anl,acl,al⟩,⟨bnl,bcl,bl⟩,lo,hb,⟨knl,kcl,kl⟩,line,col⟩:=x;have h8:(T.map Test.c)[i]?=some [.int .u8 op,.sl anl acl (al.map Node.c),.sl bnl bcl (bl.map Node.c),.bool lo,.bool hb,.sl knl kcl (kl.map intC),.int .i64 line,.int .i64 col]:=by rw[List.getElem?_map,hx];rfl
 have hF:i<T.length:=(List.getElem?_eq_some_iff.1 hx).1;obtain⟨⟨A,ea⟩,hQ,hG⟩:=zIz anl acl al hp.a.2.1 hp.a.2.2;obtain⟨⟨B,eb⟩,hR,hH⟩:=zIz bnl bcl bl hp.b.2.1 hp.b.2.2;obtain⟨hA,he⟩:=hG.le hp.a.2.2;obtain⟨hB,hk⟩:=hH.le hp.b.2.2;obtain⟨al1,hS,hl,hm⟩:=zUA ⟨op,⟨anl,acl,al⟩,⟨bnl,bcl,bl⟩,lo,hb,⟨knl,kcl,kl⟩,line,col⟩ A hA he;obtain⟨⟨LW,HW⟩,hI,hn,ht⟩:=zTU ⟨op,⟨anl,acl,al⟩,⟨bnl,bcl,bl⟩,lo,hb,⟨knl,kcl,kl⟩,line,col⟩;dsimp only at hQ hR hA he hB hk hI hn ht;have hU:∀J,J=wF (uO X i kl) [44,32]→UwP T X i ⟨op,⟨anl,acl,al⟩,⟨bnl,bcl,bl⟩,lo,hb,⟨knl,kcl,kl⟩,line,col⟩ (uwF op A B al1 LW HW J):=fun J hJ=>⟨(A,ea),(B,eb),al1,hG,hH,hm,by rw[hJ,hn,ht]⟩
 generalize UwP T X i _=UP at hU ⊢;have hV:LW.length≤1∧Byt LW:=by rw[hn];split<;>exact⟨by decide,by unfold Byt;decide⟩
 have hW:HW.length≤1∧Byt HW:=by rw[ht];split<;>exact⟨by decide,by unfold Byt;decide⟩
 have hu:Byt al1:=by
  rcases hl with rfl|rfl
  ·exact he
  exact Byt.app (s:=[61,32]) (by unfold Byt;decide) he
 simp only[Test.c,Sl.t] at hS hI;have hY:kl.length≤1000000000:=hp.kids;have hZ:(kl.map intC).length=kl.length:=List.length_map ..;have hU:=Hid.mk hU;clear hG hH hn ht hl hm hx hp;generalize hE:X.map sC=E at *;generalize T.map Test.c=l at *;generalize al.map Node.c=NA at *;generalize bl.map Node.c=NB at *;refine zJ yDH rfl ?_
 (have F_:=c5 zF zG zP zE (c5 zC zB zO zK (c5 yV xC zM yR (c5 zAQ zAG zI yIh (c5 zXK yIq yIN zLc zEU))));show W CC 0 107 (zA 25) _ ⟨[(0,_),(1,_),(2,_)],[]⟩ _)
 (refine gA ?_)
 refine yE (utS' op anl acl bnl bcl lo hb knl kcl line col NA NB (kl.map intC) E i kl.length A B) (fun y=>kl.length - y.1) (fun y=>y.1≤kl.length∧y.2.2=uO X i (kl.take y.1)∧(y.2.1=false↔y.2.2=[])) (0,false,[]) (by simp only[utS'];exact aTd) ⟨Nat.zero_le _,rfl,by simp⟩ ?_;rintro⟨j,st,ha⟩ ⟨hj,ho,hf⟩;dsimp only at hj ho hf;have h9:lens 1 (ha.map sC)=true:=by unfold lens;rw[List.all_map];exact List.all_eq_true.2 fun x _=>rfl
 have h0:ha.length≤1000000000:=by rw[ho];have:=zLm X i (kl.take j);rw[List.length_take] at this;omega
 have hz:∀s ∈ ha,s.length≤65538:=by rw[ho];exact zHE hs _
 simp only[utS']
 by_cases hC:j<kl.length
 ·have hw:=wI64 j (by omega);have hd:decide ((j:Int)<(kl.length:Int))=true:=by simpa using hC
  obtain⟨c,hc⟩:∃c,kl[j]?=some c:=⟨_,List.getElem?_eq_getElem hC⟩;have hK:(kl.map intC)[j]?=some [.int .i64 c]:=by rw[List.getElem?_map,hc];rfl
  have hh:=zN8 (X:=X) (i:=i) hc;rw[← ho] at hh;have ka:decide (ha.length+1<4294967296)=true:=by(rw[decide_eq_true_eq];omega)
  clear hQ hR hS hI hz ho hc hV hW hu he hk hZ
  by_cases hq:0≤c∧c<(i:Int)
  ·rw[if_pos hq] at hh;obtain⟨m,rfl⟩:∃m:Nat,c=m:=⟨c.toNat,by omega⟩;obtain⟨s,hL⟩:∃s,X[m]?=some s:=⟨_,List.getElem?_eq_getElem (by omega)⟩;rw[Int.toNat_natCast,List.getD,hL] at hh;have kb:E[m]?=some [.str s]:=by rw[← hE,List.getElem?_map,hL];rfl
   have l0:((0:Int)≤(m:Int))=True:=by simp
   have l1:((m:Int)<((E.length:Nat):Int))=True:=by rw[← hE,List.length_map];simp;omega
   have d1:decide ((m:Int) ≥ 0)=true:=by simp
   have d2:decide ((m:Int)<(i:Int))=true:=by simp;omega
   have hD:Hid _:=⟨And.intro (show j+1≤kl.length from hC) (And.intro (show ha++[s]=_ from hh.symm) (by simp:true=false↔ha++[s]=[]))⟩
   clear hq hL hs hE hh hX hF;generalize kl.map intC=Kl at *;cases st with
   |true =>
    clear hf
    (refine gA ?_)
    exact zD (j+1,true,ha++[s]) (by dsimp only;omega) hD.h (by simp only[utS'];(have X_:=c2 @mapA @sC.eq_1;exact aTdX))
   |false =>
    obtain rfl:=hf.1 rfl;clear hf
    (refine gA ?_)
    exact zD (j+1,true,[]++[s]) (by dsimp only;omega) hD.h (by simp only[utS'];(have X_:=c2 @mapA @sC.eq_1;exact aTdX))
  rw[if_neg hq,List.append_nil] at hh;have h2:decide (c ≥ 0)=false∨(decide (c ≥ 0)=true∧decide (c<(i:Int))=false):=by
   by_cases h:0≤c
   ·exact .inr ⟨by simpa using h,by simp;omega⟩
   exact .inl (by simpa using h)
  have hD:Hid _:=⟨And.intro (show j+1≤kl.length from hC) (And.intro hh.symm hf)⟩
  clear hq hs hE hh hX hF hf;generalize kl.map intC=Kl at *;rcases h2 with h|⟨h,h'⟩<;>cases st
  all_goals
   (refine gA ?_)
   exact zD (j+1,_,ha) (by dsimp only;omega) hD.h (by simp only[utS'];exact aTd)
 obtain rfl:j=kl.length:=by omega
 have hd:decide ((kl.length:Int)<(kl.length:Int))=false:=by simp
 have hM:=zQJ hz (by omega);have h3:(wF ha [44,32]).length≤70000000000000:=by
  have h1:=zSp 65538 (ub [44,32]) (ha.map ub) (fun x hx=>by obtain⟨y,hy,rfl⟩:=List.mem_map.1 hx;simpa [ub] using hz y hy);rw[List.length_map,show (ub [44,32]).length=2 from rfl] at h1;unfold wF nb;rw[List.length_map];omega
 have hN:Byt (wF ha [44,32]):=Byt.nb _;have kc:CC.prim 46 [.t (match (generalizing:=false) st with|true=>.sl false false (ha.map sC)|false=>.sl true true []),.t (.str [44,32])]=some (.t (.str (wF ha [44,32]))):=by
  cases st with
  |true=>exact hM false false
  |false=>obtain rfl:=hf.1 rfl;exact hM true true
 have h4:Hid _:=⟨hU.h (wF ha [44,32]) (by rw[ho,List.take_length])⟩
 clear hU;generalize wF ha [44,32]=J at *;generalize ha.map sC=O at *;generalize kl.map intC=Kl at *;obtain⟨h5,hO⟩:=hV;obtain⟨h6,hP⟩:=hW;clear hM hz ho hf h0 hE hs hX hF hY;have sg:=zFv;have s0:=sgn0;have s1:=sgn1;have s2:=sgn2;have s3:=sgn3;have s4:=sgn4;have k1:IntKind.i64.wrap (0+1)=1:=rfl;have k2:IntKind.i64.wrap (1+1)=2:=rfl;have k3:IntKind.i64.wrap (2+1)=3:=rfl;have k4:IntKind.i64.wrap (3+1)=4:=rfl;have k5:IntKind.i64.wrap (4+1)=5:=rfl;have sa1:binop Tryz.prog .add 9 (.t (.str (LW))) (.t (.str (A)))=some (.t (.str (LW++A))):=yD (by(try simp only[List.length_append,List.length_cons,List.length_nil]);omega);have sa2:binop Tryz.prog .add 9 (.t (.str (LW++A))) (.t (.str ([32,46,46,32])))=some (.t (.str (LW++A++[32,46,46,32]))):=yD (by(try simp only[List.length_append,List.length_cons,List.length_nil]);omega);have sa3:binop Tryz.prog .add 9 (.t (.str (LW++A++[32,46,46,32]))) (.t (.str (B)))=some (.t (.str (LW++A++[32,46,46,32]++B))):=yD (by(try simp only[List.length_append,List.length_cons,List.length_nil]);omega);have sa4:binop Tryz.prog .add 9 (.t (.str (LW++A++[32,46,46,32]++B))) (.t (.str (HW)))=some (.t (.str (LW++A++[32,46,46,32]++B++HW))):=yD (by(try simp only[List.length_append,List.length_cons,List.length_nil]);omega);have sa5:binop Tryz.prog .add 9 (.t (.str ([110,111,116,40]))) (.t (.str (J)))=some (.t (.str (110::111::116::40::J))):=yD (by(try simp only[List.length_append,List.length_cons,List.length_nil]);omega);have sa6:binop Tryz.prog .add 9 (.t (.str (110::111::116::40::J))) (.t (.str ([41])))=some (.t (.str ((110::111::116::40::J)++[41]))):=yD (by(try simp only[List.length_append,List.length_cons,List.length_nil]);omega);have sb0:binop Tryz.prog .add 9 (.t (.str [61])) (.t (.str [32]))=some (.t (.str [61,32])):=yD (by(try simp only[List.length_append,List.length_cons,List.length_nil]);omega);have sc0:binop Tryz.prog .add 9 (.t (.str [61,32])) (.t (.str (A)))=some (.t (.str ([61,32]++A))):=yD (by(try simp only[List.length_append,List.length_cons,List.length_nil]);omega);have sb1:binop Tryz.prog .add 9 (.t (.str [60])) (.t (.str [32]))=some (.t (.str [60,32])):=yD (by(try simp only[List.length_append,List.length_cons,List.length_nil]);omega);have sc1:binop Tryz.prog .add 9 (.t (.str [60,32])) (.t (.str (A)))=some (.t (.str ([60,32]++A))):=yD (by(try simp only[List.length_append,List.length_cons,List.length_nil]);omega);have sb2:binop Tryz.prog .add 9 (.t (.str [60,61])) (.t (.str [32]))=some (.t (.str [60,61,32])):=yD (by(try simp only[List.length_append,List.length_cons,List.length_nil]);omega);have sc2:binop Tryz.prog .add 9 (.t (.str [60,61,32])) (.t (.str (A)))=some (.t (.str ([60,61,32]++A))):=yD (by(try simp only[List.length_append,List.length_cons,List.length_nil]);omega);have sb3:binop Tryz.prog .add 9 (.t (.str [62])) (.t (.str [32]))=some (.t (.str [62,32])):=yD (by(try simp only[List.length_append,List.length_cons,List.length_nil]);omega);have sc3:binop Tryz.prog .add 9 (.t (.str [62,32])) (.t (.str (A)))=some (.t (.str ([62,32]++A))):=yD (by(try simp only[List.length_append,List.length_cons,List.length_nil]);omega);have sb4:binop Tryz.prog .add 9 (.t (.str [62,61])) (.t (.str [32]))=some (.t (.str [62,61,32])):=yD (by(try simp only[List.length_append,List.length_cons,List.length_nil]);omega);have sc4:binop Tryz.prog .add 9 (.t (.str [62,61,32])) (.t (.str (A)))=some (.t (.str ([62,61,32]++A))):=yD (by(try simp only[List.length_append,List.length_cons,List.length_nil]);omega);clear h3 hA hB h5 h6;have h7:Hid _:=⟨And.intro hN (And.intro he (And.intro hk (And.intro hO (And.intro hP hu))))⟩
 clear hN he hk hO hP hu;cases st
 all_goals (repeat' first|refine gA ?_|refine gT ?_ ?_<;>intro hv<;>try cases hv;done|refine aI ?_|fail)<;>refine aJ ?_
 all_goals
  obtain⟨hN,he,hk,hO,hP,hu⟩:=h7.h;have hq:=h4.h;refine⟨_,⟨rfl,rfl⟩,?_,?_⟩
  ·first|assumption|exact Byt.nil|(repeat' first|assumption|apply Byt.app|(refine Byt.cons (by decide) ?_)|(unfold Byt;decide))
  first|(simp only[uwF, *] at hq;exact hq)|(exfalso;simp_all;done)|(exfalso;simp_all;omega)
end Go.Ab
