/- Lemmas. -/
import Derived.Test.YtchgjnkleakhoaaGreatDoorG32
set_option maxRecDepth 1000000
set_option maxHeartbeats 40000000
set_option linter.all false
namespace Go.Ab
open Go.Proofs
attribute [local irreducible] W RW RR
def zA3(X:List (List Nat))(i:Nat):List Int→List (List Nat)
 |[]=>[]
 |c::r=>if 0≤c∧c<(i:Int) then X.getD c.toNat []::zA3 X i r else zA3 X i r
def zMM{X:List (List Nat)}{i:Nat}:∀ {l:List Int} {j:Nat} {c:Int},l[j]?=some c→zA3 X i (l.take (j+1))=zA3 X i (l.take j)++(if 0≤c∧c<(i:Int) then [X.getD c.toNat []] else [])
 |[],j,c,h=>by simp at h
 |d::l,0,c,h=>by
  simp only[List.getElem?_cons_zero,Option.some.injEq] at h;subst h;simp only[List.take_succ_cons,List.take_zero,zA3];split<;>rfl
 |d::l,j+1,c,h=>by
  have:=zMM (X:=X) (i:=i) (l:=l) (j:=j) (c:=c) (by simpa using h);simp only[List.take_succ_cons,zA3] at this ⊢;rw[this];split<;>rfl
def zKV(X:List (List Nat))(i:Nat):∀l:List Int,(zA3 X i l).length≤l.length
 |[]=>Nat.le_refl 0
 |c::l=>by have:=zKV X i l;unfold zA3;split<;>simp<;>omega
def zHa{X:List (List Nat)}{i:Nat}(hX:∀s ∈ X,s.length≤65536):∀(l:List Int),∀s ∈ zA3 X i l,s.length≤65538
 |[],s,h=>by cases h
 |c::l,s,h=>by
  unfold zA3 at h;split at h
  ·rcases List.mem_cons.1 h with rfl|h
   ·rw[List.getD];cases hc:X[c.toNat]? with
    |none=>simp
    |some y=>have:=hX y (List.mem_of_getElem? hc);simp;omega
   exact zHa hX l s h
  exact zHa hX l s h
def utS'(op:Int)(anl acl bnl bcl lo hi1 knl kcl:Bool)(line col:Int)(NA NB Kl E:List (List Tree))(i len:Nat)(A B:List Nat)(y:Nat×Bool×List (List Nat)):St :=
 ⟨[(1,.t (.int .i64 (i:Int))),(2,.t (.sl false false E)),(7,.box 0 0),(8,.t (.str A)),(10,.t (.str B)),(12,match y.2.1 with|true=>.hs 1 0|false=>.t (.sl true true [])),(37,.t (.sl knl kcl Kl)),(38,.t (.int .i64 (len:Int))),(39,.t (.int .i64 (y.1:Int)))],
  match y.2.1 with
  |true=>[.box [.t (.int .u8 op),.t (.sl anl acl NA),.t (.sl bnl bcl NB),.t (.bool lo),.t (.bool hi1),.t (.sl knl kcl Kl),.t (.int .i64 line),.t (.int .i64 col)],.arr 1 0 false (y.2.2.map sC)]
  |false=>[.box [.t (.int .u8 op),.t (.sl anl acl NA),.t (.sl bnl bcl NB),.t (.bool lo),.t (.bool hi1),.t (.sl knl kcl Kl),.t (.int .i64 line),.t (.int .i64 col)]]⟩
def uwF(op:Int)(A B al LW HW J:List Nat):List Nat :=
 match op==1 with
 |true=>[45]
 |false=>match op==2 with
  |true=>al
  |false=>match op==7 with
   |true=>LW++A++[32,46,46,32]++B++HW
   |false=>match op==8 with
    |true=>[110,111,116,40]++J++[41]
    |false=>match op==9 with
     |true=>J
     |false=>match (3:Int)==op with
      |true=>[60]++[32]++A
      |false=>match (4:Int)==op with
       |true=>[60,61]++[32]++A
       |false=>match (5:Int)==op with
        |true=>[62]++[32]++A
        |false=>match (6:Int)==op with
         |true=>[62,61]++[32]++A
         |false=>[]
def UwP(T:List Test)(X:List (List Nat))(i:Nat)(x:Test)(r:List Nat):Prop :=
 ∃(A B:List Nat×Int) (al:List Nat),zE6 x.a.l A∧zE6 x.b.l B∧zKx x A.1 al∧r=uwF x.op A.1 B.1 al (if x.low then [40] else [91]) (if x.high then [41] else [93]) (jG (zA3 X i x.kids.l) [44,32])
def zPa (a b:Bool) (T:List Test) (X:List (List Nat)) (i:Nat) (x:Test) (hx:T[i]?=some x) (hX:X.length=T.length) (hs:∀s ∈ X,s.length≤65536) (hp:PTest x) :
  ∃r:List Nat,Om CC 37 [.t (.sl a b (T.map Test.c)),.t (.int .i64 (i:Int)),.t (.sl false false (X.map sC))] []=some (.val (.t (.str r)),[])∧(Byt r∧UwP T X i x r):=by
 obtain⟨op,⟨anl,acl,al⟩,⟨bnl,bcl,bl⟩,lo,hi1,⟨knl,kcl,kl⟩,line,col⟩:=x;have hTX:(T.map Test.c)[i]?=some [.int .u8 op,.sl anl acl (al.map Node.c),.sl bnl bcl (bl.map Node.c),.bool lo,.bool hi1,.sl knl kcl (kl.map intC),.int .i64 line,.int .i64 col]:=by rw[List.getElem?_map,hx];rfl
 have hiT:i<T.length:=(List.getElem?_eq_some_iff.1 hx).1;obtain⟨⟨A,ea⟩,hra,hta⟩:=zHZ anl acl al hp.a.2.1 hp.a.2.2;obtain⟨⟨B,eb⟩,hrb,htb⟩:=zHZ bnl bcl bl hp.b.2.1 hp.b.2.2;obtain⟨hA,hAb⟩:=hta.le hp.a.2.2;obtain⟨hB,hBb⟩:=htb.le hp.b.2.2;obtain⟨al1,hal,halc,halP⟩:=zTM ⟨op,⟨anl,acl,al⟩,⟨bnl,bcl,bl⟩,lo,hi1,⟨knl,kcl,kl⟩,line,col⟩ A hA hAb;obtain⟨⟨LW,HW⟩,hen,hlw,hhw⟩:=zUx ⟨op,⟨anl,acl,al⟩,⟨bnl,bcl,bl⟩,lo,hi1,⟨knl,kcl,kl⟩,line,col⟩;dsimp only at hra hrb hA hAb hB hBb hen hlw hhw;have hU:∀J,J=jG (zA3 X i kl) [44,32]→UwP T X i ⟨op,⟨anl,acl,al⟩,⟨bnl,bcl,bl⟩,lo,hi1,⟨knl,kcl,kl⟩,line,col⟩ (uwF op A B al1 LW HW J):=fun J hJ=>⟨(A,ea),(B,eb),al1,hta,htb,halP,by rw[hJ,hlw,hhw]⟩
 generalize UwP T X i _=UP at hU ⊢;have hL1:LW.length≤1∧Byt LW:=by rw[hlw];split<;>exact⟨by decide,by unfold Byt;decide⟩
 have hH1:HW.length≤1∧Byt HW:=by rw[hhw];split<;>exact⟨by decide,by unfold Byt;decide⟩
 have hAl:Byt al1:=by
  rcases halc with rfl|rfl
  ·exact hAb
  exact Byt.app (s:=[61,32]) (by unfold Byt;decide) hAb
 simp only[Test.c,Sl.t] at hal hen;have hkn:kl.length≤1000000000:=hp.kids;have hml:(kl.map intC).length=kl.length:=List.length_map ..;have hU:=Hid.mk hU;clear hta htb hlw hhw halc halP hx hp;generalize hE:X.map sC=E at *;generalize T.map Test.c=l at *;generalize al.map Node.c=NA at *;generalize bl.map Node.c=NB at *;refine zJ yDW rfl ?_
 (have F_:=c5 zF zG zQ zE (c5 zD zI yM zB (c5 xC zO zL yL (c5 zN zAV zAR yHB (c5 zXu yGT yHr zKE zFc))));show W CC 0 107 (zA 37) _ ⟨[(0,_),(1,_),(2,_)],[]⟩ _)
 (refine gA ?_)
 refine zY (utS' op anl acl bnl bcl lo hi1 knl kcl line col NA NB (kl.map intC) E i kl.length A B) (fun y=>kl.length - y.1) (fun y=>y.1≤kl.length∧y.2.2=zA3 X i (kl.take y.1)∧(y.2.1=false↔y.2.2=[])) (0,false,[]) (by simp only[utS'];exact aTd) ⟨Nat.zero_le _,rfl,by simp⟩ ?_;rintro⟨j,st,out⟩ ⟨hj,ho,hno⟩;dsimp only at hj ho hno;have hle:lens 1 (out.map sC)=true:=by unfold lens;rw[List.all_map];exact List.all_eq_true.2 fun x _=>rfl
 have hol:out.length≤1000000000:=by rw[ho];have:=zKV X i (kl.take j);rw[List.length_take] at this;omega
 have hom:∀s ∈ out,s.length≤65538:=by rw[ho];exact zHa hs _
 simp only[utS']
 by_cases hj':j<kl.length
 ·have hw:=wI64 j (by omega);have hd:decide ((j:Int)<(kl.length:Int))=true:=by simpa using hj'
  obtain⟨c,hc⟩:∃c,kl[j]?=some c:=⟨_,List.getElem?_eq_getElem hj'⟩;have hK:(kl.map intC)[j]?=some [.int .i64 c]:=by rw[List.getElem?_map,hc];rfl
  have hat:=zMM (X:=X) (i:=i) hc;rw[← ho] at hat;have hsm:decide (out.length+1<4294967296)=true:=by(rw[decide_eq_true_eq];omega)
  clear hra hrb hal hen hom ho hc hL1 hH1 hAl hAb hBb hml
  by_cases hq:0≤c∧c<(i:Int)
  ·rw[if_pos hq] at hat;obtain⟨m,rfl⟩:∃m:Nat,c=m:=⟨c.toNat,by omega⟩;obtain⟨s,hsx⟩:∃s,X[m]?=some s:=⟨_,List.getElem?_eq_getElem (by omega)⟩;rw[Int.toNat_natCast,List.getD,hsx] at hat;have hSn:E[m]?=some [.str s]:=by rw[← hE,List.getElem?_map,hsx];rfl
   have l0:((0:Int)≤(m:Int))=True:=by simp
   have l1:((m:Int)<((E.length:Nat):Int))=True:=by rw[← hE,List.length_map];simp;omega
   have d1:decide ((m:Int) ≥ 0)=true:=by simp
   have d2:decide ((m:Int)<(i:Int))=true:=by simp;omega
   have hag:Hid _:=⟨And.intro (show j+1≤kl.length from hj') (And.intro (show out++[s]=_ from hat.symm) (by simp:true=false↔out++[s]=[]))⟩
   clear hq hsx hs hE hat hX hiT;generalize kl.map intC=Kl at *;cases st with
   |true =>
    clear hno
    (refine gA ?_)
    exact zC (j+1,true,out++[s]) (by dsimp only;omega) hag.h (by simp only[utS'];(have X_:=c2 @mapA @sC.eq_1;exact aTdX))
   |false =>
    obtain rfl:=hno.1 rfl;clear hno
    (refine gA ?_)
    exact zC (j+1,true,[]++[s]) (by dsimp only;omega) hag.h (by simp only[utS'];(have X_:=c2 @mapA @sC.eq_1;exact aTdX))
  rw[if_neg hq,List.append_nil] at hat;have hcc:decide (c ≥ 0)=false∨(decide (c ≥ 0)=true∧decide (c<(i:Int))=false):=by
   by_cases h:0≤c
   ·exact .inr ⟨by simpa using h,by simp;omega⟩
   exact .inl (by simpa using h)
  have hag:Hid _:=⟨And.intro (show j+1≤kl.length from hj') (And.intro hat.symm hno)⟩
  clear hq hs hE hat hX hiT hno;generalize kl.map intC=Kl at *;rcases hcc with h|⟨h,h'⟩<;>cases st
  all_goals
   (refine gA ?_)
   exact zC (j+1,_,out) (by dsimp only;omega) hag.h (by simp only[utS'];exact aTd)
 obtain rfl:j=kl.length:=by omega
 have hd:decide ((kl.length:Int)<(kl.length:Int))=false:=by simp
 have hjn:=zP3 hom (by omega);have hjl:(jG out [44,32]).length≤70000000000000:=by
  have h1:=zRF 65538 (ub [44,32]) (out.map ub) (fun x hx=>by obtain⟨y,hy,rfl⟩:=List.mem_map.1 hx;simpa [ub] using hom y hy);rw[List.length_map,show (ub [44,32]).length=2 from rfl] at h1;unfold jG nb;rw[List.length_map];omega
 have hJb:Byt (jG out [44,32]):=Byt.nb _;have hJ2:CC.prim 59 [.t (match (generalizing:=false) st with|true=>.sl false false (out.map sC)|false=>.sl true true []),.t (.str [44,32])]=some (.t (.str (jG out [44,32]))):=by
  cases st with
  |true=>exact hjn false false
  |false=>obtain rfl:=hno.1 rfl;exact hjn true true
 have hUJ:Hid _:=⟨hU.h (jG out [44,32]) (by rw[ho,List.take_length])⟩
 clear hU;generalize jG out [44,32]=J at *;generalize out.map sC=O at *;generalize kl.map intC=Kl at *;obtain⟨hLl,hLb⟩:=hL1;obtain⟨hHl,hHb⟩:=hH1;clear hjn hom ho hno hol hE hs hX hiT hkn;have sg:=zFB;have s0:=sgn0;have s1:=sgn1;have s2:=sgn2;have s3:=sgn3;have s4:=sgn4;have k1:IntKind.i64.wrap (0+1)=1:=rfl;have k2:IntKind.i64.wrap (1+1)=2:=rfl;have k3:IntKind.i64.wrap (2+1)=3:=rfl;have k4:IntKind.i64.wrap (3+1)=4:=rfl;have k5:IntKind.i64.wrap (4+1)=5:=rfl;have sa1:binop Tryz.prog .add 9 (.t (.str (LW))) (.t (.str (A)))=some (.t (.str (LW++A))):=yF (by(try simp only[List.length_append,List.length_cons,List.length_nil]);omega);have sa2:binop Tryz.prog .add 9 (.t (.str (LW++A))) (.t (.str ([32,46,46,32])))=some (.t (.str (LW++A++[32,46,46,32]))):=yF (by(try simp only[List.length_append,List.length_cons,List.length_nil]);omega);have sa3:binop Tryz.prog .add 9 (.t (.str (LW++A++[32,46,46,32]))) (.t (.str (B)))=some (.t (.str (LW++A++[32,46,46,32]++B))):=yF (by(try simp only[List.length_append,List.length_cons,List.length_nil]);omega);have sa4:binop Tryz.prog .add 9 (.t (.str (LW++A++[32,46,46,32]++B))) (.t (.str (HW)))=some (.t (.str (LW++A++[32,46,46,32]++B++HW))):=yF (by(try simp only[List.length_append,List.length_cons,List.length_nil]);omega);have sa5:binop Tryz.prog .add 9 (.t (.str ([110,111,116,40]))) (.t (.str (J)))=some (.t (.str (110::111::116::40::J))):=yF (by(try simp only[List.length_append,List.length_cons,List.length_nil]);omega);have sa6:binop Tryz.prog .add 9 (.t (.str (110::111::116::40::J))) (.t (.str ([41])))=some (.t (.str ((110::111::116::40::J)++[41]))):=yF (by(try simp only[List.length_append,List.length_cons,List.length_nil]);omega);have sb0:binop Tryz.prog .add 9 (.t (.str [61])) (.t (.str [32]))=some (.t (.str [61,32])):=yF (by(try simp only[List.length_append,List.length_cons,List.length_nil]);omega);have sc0:binop Tryz.prog .add 9 (.t (.str [61,32])) (.t (.str (A)))=some (.t (.str ([61,32]++A))):=yF (by(try simp only[List.length_append,List.length_cons,List.length_nil]);omega);have sb1:binop Tryz.prog .add 9 (.t (.str [60])) (.t (.str [32]))=some (.t (.str [60,32])):=yF (by(try simp only[List.length_append,List.length_cons,List.length_nil]);omega);have sc1:binop Tryz.prog .add 9 (.t (.str [60,32])) (.t (.str (A)))=some (.t (.str ([60,32]++A))):=yF (by(try simp only[List.length_append,List.length_cons,List.length_nil]);omega);have sb2:binop Tryz.prog .add 9 (.t (.str [60,61])) (.t (.str [32]))=some (.t (.str [60,61,32])):=yF (by(try simp only[List.length_append,List.length_cons,List.length_nil]);omega);have sc2:binop Tryz.prog .add 9 (.t (.str [60,61,32])) (.t (.str (A)))=some (.t (.str ([60,61,32]++A))):=yF (by(try simp only[List.length_append,List.length_cons,List.length_nil]);omega);have sb3:binop Tryz.prog .add 9 (.t (.str [62])) (.t (.str [32]))=some (.t (.str [62,32])):=yF (by(try simp only[List.length_append,List.length_cons,List.length_nil]);omega);have sc3:binop Tryz.prog .add 9 (.t (.str [62,32])) (.t (.str (A)))=some (.t (.str ([62,32]++A))):=yF (by(try simp only[List.length_append,List.length_cons,List.length_nil]);omega);have sb4:binop Tryz.prog .add 9 (.t (.str [62,61])) (.t (.str [32]))=some (.t (.str [62,61,32])):=yF (by(try simp only[List.length_append,List.length_cons,List.length_nil]);omega);have sc4:binop Tryz.prog .add 9 (.t (.str [62,61,32])) (.t (.str (A)))=some (.t (.str ([62,61,32]++A))):=yF (by(try simp only[List.length_append,List.length_cons,List.length_nil]);omega);clear hjl hA hB hLl hHl;have hby:Hid _:=⟨And.intro hJb (And.intro hAb (And.intro hBb (And.intro hLb (And.intro hHb hAl))))⟩
 clear hJb hAb hBb hLb hHb hAl;cases st
 all_goals (repeat' first|refine gA ?_|refine gT ?_ ?_<;>intro hv<;>try cases hv;done|refine aI ?_|fail)<;>refine aJ ?_
 all_goals
  obtain⟨hJb,hAb,hBb,hLb,hHb,hAl⟩:=hby.h;have hq:=hUJ.h;refine⟨_,⟨rfl,rfl⟩,?_,?_⟩
  ·first|assumption|exact Byt.nil|(repeat' first|assumption|apply Byt.app|(refine Byt.cons (by decide) ?_)|(unfold Byt;decide))
  first|(simp only[uwF, *] at hq;exact hq)|(exfalso;simp_all;done)|(exfalso;simp_all;omega)
end Go.Ab
