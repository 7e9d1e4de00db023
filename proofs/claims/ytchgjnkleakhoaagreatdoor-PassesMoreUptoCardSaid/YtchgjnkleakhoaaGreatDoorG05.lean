/- Lemmas. -/
import Derived.Test.YtchgjnkleakhoaaGreatDoorG03
import Derived.Test.YtchgjnkleakhoaaGreatDoorG04
set_option maxRecDepth 1000000
set_option maxHeartbeats 40000000
set_option linter.all false
namespace Go.Ab
open Go.Proofs
attribute [local irreducible] W RW RR
def zIZ(a b:Nat):Nat.ble a b=decide (a≤b):=by
 cases h:Nat.ble a b with
 |true=>rw[Nat.ble_eq] at h;simp [h]
 |false =>
  have:¬ a≤b:=fun hh=>by rw[← Nat.ble_eq,h] at hh;cases hh
  simp [this]
def zPN(c:Nat):wC c=(decide ((c:Int) ≥ 97)&&decide ((c:Int)≤122)):=by
 unfold wC;rw[zIZ,zIZ];congr 1<;>simp<;>omega
def zR0(c:Nat):yT c=(decide ((c:Int) ≥ 48)&&decide ((c:Int)≤57)):=by
 unfold yT;rw[zIZ,zIZ];congr 1<;>simp<;>omega
def zIf(c:Nat):Om CC 153 [.t (.int .u8 (c:Int))] []=some (.val (.t (.bool (wC c))),[]):=by
 rw[zPN];refine zK zZZ rfl ?_
 (have F_:=c2 zE yEz;show W CC 0 9 (zA 153) _ ⟨[(0,_)],[]⟩ _)
 (repeat' first|refine gA ?_|refine gT ?_ ?_<;>intro hv|fail)
 all_goals refine aK ?_ ?_<;>(first|rfl|(simp_all;done)|(simp_all;omega))
def zDW(c:Nat):Om CC 155 [.t (.int .u8 (c:Int))] []=some (.val (.t (.bool (yT c))),[]):=by
 rw[zR0];refine zK yAX rfl ?_
 (have F_:=c2 zE yFr;show W CC 0 9 (zA 155) _ ⟨[(0,_)],[]⟩ _)
 (repeat' first|refine gA ?_|refine gT ?_ ?_<;>intro hv|fail)
 all_goals refine aK ?_ ?_<;>(first|rfl|(simp_all;done)|(simp_all;omega))
def zW3{p:Nat→Bool}{s:List Nat}{i:Nat}(hi:i<s.length):cntW p (s.drop i)=if p s[i] then cntW p (s.drop (i+1))+1 else 0:=by
 rw[List.drop_eq_getElem_cons hi,cntW]
def jW{s:List Nat}{i b:Nat}(h:s[i]?=some b):index Tryz.prog 9 (.t (.str s)) (i:Int)=some (.t (.int .u8 (b:Int))):=by
 simp [index,zEg,qL,h]
def zDX (f:FuncId) (p:Nat→Bool) (hf:∀c:Nat,Om CC f [.t (.int .u8 (c:Int))] []=some (.val (.t (.bool (p c))),[])) (hbf:yX Tryz.prog f=true) (hpf:∀x,CC.prim f x=none) (s:List Nat) (i0:Nat) (h0:i0≤s.length)
  (hs:s.length<9223372036854775808):Om CC 150 [.t (.str s),.t (.int .i64 (i0:Int)),.t (.fn f)] []=some (.val (.t (.int .i64 (cntW p (s.drop i0):Nat))),[]):=by
 refine zK zQM rfl ?_
 (have F_:=c5 zG zE zD zFC zT5;show W CC 0 25 (zA 150) _ ⟨[(0,_),(1,_),(2,_)],[]⟩ _)
 (refine gA ?_)
 refine zY (α:=Nat) (fun i=>⟨[(0,.t (.str s)),(1,.t (.int .i64 (i0:Int))),(2,.t (.fn f)),(7,.t (.int .i64 (i:Int)))],[]⟩) (fun i=>s.length - i)
  (fun i=>i0≤i∧i≤s.length∧cntW p (s.drop i0)=(i - i0)+cntW p (s.drop i)) i0 (by kernel_rfl) ⟨Nat.le_refl _,h0,by omega⟩ ?_
 rintro i ⟨hl,hi,hc⟩
 by_cases hi':i<s.length
 ·have hw:=wI64 i (by omega);have hd:decide ((i:Int)<s.length)=true:=by simpa using hi'
  have he:s[i]?=some s[i]:=List.getElem?_eq_getElem hi';have hst:=zW3 (p:=p) hi';have hcf:=hf s[i];have hx:=jW he;generalize s[i]=b at *;cases hp:p b with
  |true =>
   rw[hp] at hcf hst
   (refine gA ?_)
   refine zC (i+1) (by omega) ⟨by omega,by omega,?_⟩ (by exact aTd);rw[if_pos rfl] at hst;omega
  |false =>
   rw[hp] at hcf hst;rw[if_neg (by simp)] at hst;have hw2:IntKind.i64.wrap ((i:Int) - (i0:Int))=((cntW p (s.drop i0):Nat):Int):=by rw[wrap64]<;>omega
   (refine gA ?_)
   all_goals refine aK ?_ ?_<;>(first|rfl|(simp_all;done))
 obtain rfl:i=s.length:=by omega
 have hd:decide ((s.length:Int)<s.length)=false:=by simp
 have hz:cntW p (s.drop s.length)=0:=by rw[List.drop_length];rfl
 have hw2:IntKind.i64.wrap ((s.length:Int) - (i0:Int))=((cntW p (s.drop i0):Nat):Int):=by rw[wrap64]<;>omega
 (refine gA ?_)
 all_goals refine aK ?_ ?_<;>(first|rfl|(simp_all;done))
def zOl(c:Nat):Om CC 154 [.t (.int .u8 (c:Int))] []=some (.val (.t (.bool (yY c))),[]):=by
 have h1:=zIf c;have h2:=zDW c;refine zK zYf rfl ?_
 (have F_:=c3 zE yGh (c2 zN5 zIA);show W CC 0 9 (zA 154) _ ⟨[(0,_)],[]⟩ _)
 cases hl:wC c with
 |true =>
  have hn:yY c=true:=by simp [yY,hl]
  rw[hl] at h1
  (refine gA ?_)
  all_goals refine aK ?_ ?_<;>(first|rfl|(simp_all;done))
 |false =>
  have hn:yY c=yT c:=by simp [yY,hl]
  rw[hl] at h1
  (refine gA ?_)
  all_goals refine aK ?_ ?_<;>(first|rfl|(simp_all;done))
def zME{g:Look}{s:List Nat}{lo hi:Nat}(h1:lo≤hi)(h2:hi≤s.length):slice Tryz.prog g 9 (.t (.str s)) (some (lo:Int)) (some (hi:Int)) none=some (.t (.str ((s.take hi).drop lo))):=by
 have e:(0:Int)≤(lo:Int)∧(lo:Int)≤(hi:Int)∧(hi:Int)≤(s.length:Int):=by omega
 simp [slice,zEg,h1,h2]
def zSA (s:List Nat) (hs:s.length<9223372036854775808) :
  Om CC 152 [.t (.str s)] []=some (.val (.tup [.t (.str (if wC (nth0 s 1) then (s.drop 1).take (cntW yY (s.drop 1)) else [])),.t (.bool (wC (nth0 s 1)))]),[]):=by
 refine zK yA9 rfl ?_
 (have F_:=c5 zG zQ zE zD (c3 zFC yCz (c2 zN5 zHK));show W CC 0 18 (zA 152) _ ⟨[(0,_)],[]⟩ _)
 match s,hs with
 |[],_ =>
  (repeat' first|refine gA ?_|refine gT ?_ ?_<;>intro hv<;>try cases hv;done|fail)
  all_goals refine aK ?_ ?_<;>(first|rfl|(simp_all;done))
 |[a],_ =>
  (repeat' first|refine gA ?_|refine gT ?_ ?_<;>intro hv<;>try cases hv;done|fail)
  all_goals refine aK ?_ ?_<;>(first|rfl|(simp_all;done))
 |a::b::r,hs =>
  have e1:nth0 (a::b::r) 1=b:=rfl;have e2:(a::b::r).drop 1=b::r:=rfl;rw[e1,e2];have h1:=zIf b;have hx:index Tryz.prog 9 (.t (.str (a::b::r))) 1=some (.t (.int .u8 (b:Int))):=jW (s:=a::b::r) (i:=1) (b:=b) rfl;cases hl:wC b with
  |true =>
   rw[hl] at h1;have hw:Om CC 150 [.t (.str (a::b::r)),.t (.int .i64 1),.t (.fn 154)] []=some (.val (.t (.int .i64 (cntW yY (b::r):Nat))),[]):=zDX 154 yY zOl zSI (fun x=>zZ _ x (by decide)) (a::b::r) 1 (by simp) hs;have hc:=zBl yY (b::r);have hln:(b::r).length+1<9223372036854775808:=by simpa using hs
   have hwr:IntKind.i64.wrap (1+((cntW yY (b::r):Nat):Int))=((1+cntW yY (b::r):Nat):Int):=by rw[wrap64]<;>omega
   have hsl:∀g,slice Tryz.prog g 9 (.t (.str (a::b::r))) (some 1) (some ((1+cntW yY (b::r):Nat):Int)) none=some (.t (.str ((b::r).take (cntW yY (b::r))))):=fun g=>by
    have:=zME (g:=g) (s:=a::b::r) (lo:=1) (hi:=1+cntW yY (b::r)) (by omega) (by simp only[List.length_cons] at hc ⊢;omega);rw[Nat.add_comm 1,List.take_succ_cons] at this;rw[Nat.add_comm 1];exact this
   generalize cntW yY (b::r)=n at *
   (repeat' first|refine gA ?_|refine gT ?_ ?_<;>intro hv<;>try cases hv;done|fail)
   all_goals refine aK ?_ ?_<;>(first|rfl|(simp_all;done))
  |false =>
   rw[hl] at h1
   (repeat' first|refine gA ?_|refine gT ?_ ?_<;>intro hv<;>try cases hv;done|fail)
   all_goals refine aK ?_ ?_<;>(first|rfl|(simp_all;done))
def VPH(vp:List Nat→Val×Int):Prop:=∀s:List Nat,s.length<9223372036854775808 →
 Om CC 201 [.t (.str s)] []=some (.val (.tup [.t (.agg [.int .u8 (vp s).1.k,.int .i64 (vp s).1.n,.str (vp s).1.s]),.t (.int .i64 (vp s).2)]),[])
def uI(x:BTok×Nat×Int):AV :=
 .tup [.t (.agg [.int .u8 x.1.1,.str x.1.2.1,.int .u8 x.1.2.2.k,.int .i64 x.1.2.2.n,.str x.1.2.2.s,.int .i64 0,.int .i64 0]),.t (.int .i64 (x.2.1:Nat)),.t (.int .i64 x.2.2)]
def zBF{g:Look}{s:List Nat}{n:Nat}(h:n≤s.length):slice Tryz.prog g 9 (.t (.str s)) none (some (n:Int)) none=some (.t (.str (s.take n))):=by
 simp [slice,zEg,h]
def zTt {vp:List Nat→Val×Int} (hvp:VPH vp) (s:List Nat) (hs:s.length<9223372036854775807) :
  Om CC 156 [.t (.str s)] []=some (.val (uI (numX vp s)),[]):=by
 have hn:=zQm s;have w0:Om CC 150 [.t (.str s),.t (.int .i64 0),.t (.fn 155)] []=some (.val (.t (.int .i64 (cntW yT s:Nat))),[]) :=
  zDX 155 yT zDW zIA (fun x=>zZ _ x (by decide)) s 0 (by simp) (by omega)
 have hc:=zBl yT s;have hpv:=hvp (s.take (numN s)) (by rw[List.length_take];omega);have htk:∀g,slice Tryz.prog g 9 (.t (.str s)) none (some (numN s:Int)) none=some (.t (.str (s.take (numN s)))):=fun g=>zBF hn
 have key:numN s=cntW yT s∧(∀c d,s[cntW yT s]?=some c→s[cntW yT s+1]?=some d→c=46→yT d=false) ∨
   (cntW yT s+1<s.length∧(∃d,s[cntW yT s]?=some 46∧s[cntW yT s+1]?=some d∧yT d=true)∧numN s=cntW yT s+1+cntW yT (s.drop (cntW yT s+1))):=by
  by_cases h:nth0 s (cntW yT s)=46∧yT (nth0 s (cntW yT s+1))=true
  ·right
   have h3:cntW yT s+1<s.length:=by
    rcases Nat.lt_or_ge (cntW yT s+1) s.length with h'|h'
    ·exact h'
    rw[zIQ h'] at h;exact absurd h.2 (by decide)
   refine⟨h3,⟨nth0 s (cntW yT s+1),?_,?_,h.2⟩,?_⟩
   ·rw[← h.1];unfold nth0;rw[List.getElem?_eq_getElem (by omega)];rfl
   ·unfold nth0;rw[List.getElem?_eq_getElem h3];rfl
   unfold numN;simp only[h,and_self,if_true]
  left
  refine⟨by unfold numN;simp only;rw[if_neg h],fun c d h1 h2 h3=>?_⟩;cases hd:yT d with
  |false=>rfl
  |true=>exact absurd ⟨by unfold nth0;rw[h1];exact h3,by unfold nth0;rw[h2];exact hd⟩ h
 have hN:(numX vp s)=((4,s.take (numN s),(vp (s.take (numN s))).1),numN s,if (vp (s.take (numN s))).2=0∨(vp (s.take (numN s))).2=9 then (vp (s.take (numN s))).2 else 4):=rfl;rw[hN];generalize (vp (s.take (numN s)))=r at hpv ⊢;obtain⟨⟨vk,vn,vs⟩,e⟩:=r;dsimp only at hpv ⊢;generalize hn0:cntW yT s=n0 at w0 hc key;generalize numN s=n at *;refine zK zYv rfl ?_
 (have F_:=c5 zF zG zE zD (c5 zI zB zU zS (c5 zFC yBI zHK zIA zTa));show W CC 0 53 (zA 156) _ ⟨[(0,_)],[]⟩ _)
 have hw1:IntKind.i64.wrap ((n0:Int)+1)=(n0:Int)+1:=by rw[wrap64]<;>omega
 rcases key with ⟨rfl,key⟩|⟨h3,⟨d,e1,e2,hd⟩,hnn⟩
 ·by_cases h3:n+1<s.length
  ·have hd1:decide ((n:Int)+1<(s.length:Int))=true:=by simp;omega
   obtain⟨c,hcc⟩:∃c,s[n]?=some c:=⟨_,List.getElem?_eq_getElem (by omega)⟩;obtain⟨d,hdd⟩:∃d,s[n+1]?=some d:=⟨_,List.getElem?_eq_getElem h3⟩;have hx1:=jW hcc;have hx2:index Tryz.prog 9 (.t (.str s)) ((n:Int)+1)=some (.t (.int .u8 (d:Int))):=jW hdd;have hdg:=zDW d
   by_cases hc46:c=46
   ·have:=key c d hcc hdd hc46;subst hc46;rw[this] at hdg
    (repeat' first|refine gA ?_|refine gT ?_ ?_<;>intro hv<;>try cases hv;done|fail)
    all_goals refine aK ?_ ?_<;>(first|rfl|(clear F_;simp_all [uI];done))
   have hcb:((c:Int)==46)=false:=by simp;omega
   (repeat' first|refine gA ?_|refine gT ?_ ?_<;>intro hv|fail)
   all_goals refine aK ?_ ?_<;>(first|rfl|(clear F_;simp_all [uI];done))
  have hd1:decide ((n:Int)+1<(s.length:Int))=false:=by simp;omega
  (repeat' first|refine gA ?_|refine gT ?_ ?_<;>intro hv|fail)
  all_goals refine aK ?_ ?_<;>(first|rfl|(clear F_;simp_all [uI];done))
 have hd1:decide ((n0:Int)+1<(s.length:Int))=true:=by simp;omega
 have hx1:=jW e1;have hx2:index Tryz.prog 9 (.t (.str s)) ((n0:Int)+1)=some (.t (.int .u8 (d:Int))):=jW e2;have hdg:=zDW d;rw[hd] at hdg;have hwh:Om CC 150 [.t (.str s),.t (.int .i64 ((n0:Int)+1)),.t (.fn 155)] []=some (.val (.t (.int .i64 (cntW yT (s.drop (n0+1)):Nat))),[]) :=
  zDX 155 yT zDW zIA (fun x=>zZ _ x (by decide)) s (n0+1) (by omega) (by omega)
 generalize cntW yT (s.drop (n0+1))=m at *;have hw2:IntKind.i64.wrap (1+(m:Int))=1+(m:Int):=by rw[wrap64]<;>omega
 have hw3:IntKind.i64.wrap ((n0:Int)+(1+(m:Int)))=(n:Int):=by rw[wrap64]<;>omega
 clear hnn
 (repeat' first|refine gA ?_|refine gT ?_ ?_<;>intro hv<;>try cases hv;done|fail)
 all_goals refine aK ?_ ?_<;>(first|rfl|(clear F_;simp_all [uI];done))
def zBv(c d:Nat):((c:Int)==(d:Int))=(c==d):=by
 cases h:(c==d)<;>simp_all;omega
def yBL(c d:Nat):decide ((c:Int)<(d:Int))=Nat.blt c d:=by rw[zCe];congr 1;simp
def yHY(c d:Nat):decide ((c:Int) > (d:Int))=Nat.blt d c:=by rw[zCe];congr 1;simp
def yDt(c:Nat)(esc:Bool):Om CC 202 [.t (.int .u8 (c:Int)),.box 0 0] [.box [.t (.bool esc)]] =
  some (.val (.t (.bool (!((c==34&&!esc)||Nat.blt c 32||Nat.blt 126 c)))),[.box [.t (.bool (c==92&&!esc))]]):=by
 refine zK zZi rfl ?_
 (have F_:=c3 zQ zE yEb;show W CC 1 27 (zA 202) _ ⟨[(0,_),(1,_)],[_]⟩ _)
 have h1:((c:Int)==34)=(c==34):=zBv c 34;have h2:((c:Int)==92)=(c==92):=zBv c 92;have h3:decide ((c:Int)<32)=Nat.blt c 32:=yBL c 32;have h4:decide ((c:Int) > 126)=Nat.blt 126 c:=yHY c 126;generalize (c==34)=b1 at *;generalize (c==92)=b2 at *;generalize Nat.blt c 32=b3 at *;generalize Nat.blt 126 c=b4 at *
 (repeat' first|refine gA ?_|refine gT ?_ ?_<;>intro hv|fail)
 all_goals refine aK ?_ ?_<;>(clear F_;simp_all;done)
def zUO{s:List Nat}{i:Nat}{e:Bool}(hi:i<s.length):strN e (s.drop i)=if (s[i]==34&&!e)||Nat.blt s[i] 32||Nat.blt 126 s[i] then 0 else strN (s[i]==92&&!e) (s.drop (i+1))+1:=by
 rw[List.drop_eq_getElem_cons hi,strN]
def zUo (s:List Nat) (i0:Nat) (e0:Bool) (h0:i0≤s.length) (hs:s.length<9223372036854775808) :
  ∃e:Bool,Om CC 150 [.t (.str s),.t (.int .i64 (i0:Int)),.fn 202 [] [.box 0 0]] [.box [.t (.bool e0)]]=some (.val (.t (.int .i64 (strN e0 (s.drop i0):Nat))),[.box [.t (.bool e)]]):=by
 suffices hh:∃o h',Om CC 150 [.t (.str s),.t (.int .i64 (i0:Int)),.fn 202 [] [.box 0 0]] [.box [.t (.bool e0)]]=some (o,h')∧(o=.val (.t (.int .i64 (strN e0 (s.drop i0):Nat)))∧∃e,h'=[.box [.t (.bool e)]]) by
  obtain⟨o,h',h1,rfl,e,rfl⟩:=hh;exact⟨e,h1⟩
 refine xU zQM rfl ?_ (by kernel_rfl)
 (have F_:=c5 zG zE zD zFC (c2 zT5 yD3);show W CC 1 25 (zA 150) _ ⟨[(0,_),(1,_),(2,_)],[_]⟩ _)
 (refine gA ?_)
 refine zY (α:=Nat×Bool) (fun a=>⟨[(0,.t (.str s)),(1,.t (.int .i64 (i0:Int))),(2,.fn 202 [] [.box 0 0]),(7,.t (.int .i64 (a.1:Int)))],[.box [.t (.bool a.2)]]⟩) (fun a=>s.length - a.1)
  (fun a=>i0≤a.1∧a.1≤s.length∧strN e0 (s.drop i0)=(a.1 - i0)+strN a.2 (s.drop a.1)) (i0,e0) (by exact aTd) ⟨Nat.le_refl _,h0,by simp⟩ ?_
 rintro⟨i,e⟩ ⟨hl,hi,hc⟩;dsimp only at hl hi hc ⊢
 by_cases hi':i<s.length
 ·have hw:=wI64 i (by omega);have hd:decide ((i:Int)<s.length)=true:=by simpa using hi'
  have he:s[i]?=some s[i]:=List.getElem?_eq_getElem hi';have hst:=zUO (e:=e) hi';have hcf:=yDt s[i] e;have hx:=jW he;generalize s[i]=b at *;generalize ((b==34&&!e)||Nat.blt b 32||Nat.blt 126 b)=p at *;generalize (b==92&&!e)=e' at *;cases p with
  |false =>
   (refine gA ?_)
   refine zC (i+1,e') (by dsimp only;omega) ⟨by dsimp only;omega,by dsimp only;omega,?_⟩ (by exact aTd);rw[if_neg (by simp)] at hst;dsimp only;omega
  |true =>
   rw[if_pos rfl] at hst;have hw2:IntKind.i64.wrap ((i:Int) - (i0:Int))=((strN e0 (s.drop i0):Nat):Int):=by rw[wrap64]<;>omega
   (refine gA ?_)
   all_goals refine aJ ?_<;>exact⟨by(clear F_;simp_all),_,rfl⟩
 obtain rfl:i=s.length:=by omega
 have hd:decide ((s.length:Int)<s.length)=false:=by simp
 have hz:strN e (s.drop s.length)=0:=by rw[List.drop_length];cases e<;>rfl
 have hw2:IntKind.i64.wrap ((s.length:Int) - (i0:Int))=((strN e0 (s.drop i0):Nat):Int):=by rw[wrap64]<;>omega
 (refine gA ?_)
 all_goals refine aJ ?_<;>exact⟨by(clear F_;simp_all),_,rfl⟩
def yAk {vp:List Nat→Val×Int} (hvp:VPH vp) (s:List Nat) (h1:1≤s.length) (hs:s.length<9223372036854775807) :
  Om CC 157 [.t (.str s)] []=some (.val (uI (zLB vp s)),[]):=by
 obtain⟨e,w0⟩:=zUo s 1 false h1 (by omega);have hn:=zP8 (s.drop 1) false;rw[List.length_drop] at hn;have hT:zLB vp s=if nth0 s (strN false (s.drop 1)+1)=34∧(vp (s.take (strN false (s.drop 1)+2))).2=0 then
  ((5,(s.drop 1).take (strN false (s.drop 1)),(vp (s.take (strN false (s.drop 1)+2))).1),strN false (s.drop 1)+2,0) else NoW:=rfl
 rw[hT];clear hT;have w1:Om CC 150 [.t (.str s),.t (.int .i64 1),.fn 202 [] [.box 0 0]] [.box [.t (.bool false)]]=some (.val (.t (.int .i64 (strN false (s.drop 1):Nat))),[.box [.t (.bool e)]]):=w0;clear w0;generalize strN false (s.drop 1)=n at *;have hw1:IntKind.i64.wrap (1+(n:Int))=(n:Int)+1:=by rw[wrap64]<;>omega
 refine zK zZT rfl ?_
 (have F_:=c5 zF zG zQ zE (c5 zD zI zB zU (c5 zS zFC yCc zHK zTa));show W CC 0 42 (zA 157) _ ⟨[(0,_)],[]⟩ _)
 by_cases h2:n+1<s.length
 ·have hd:decide ((n:Int)+1 ≥ (s.length:Int))=false:=by simp;omega
  obtain⟨c,hc⟩:∃c,s[n+1]?=some c:=⟨_,List.getElem?_eq_getElem h2⟩;have hx:index Tryz.prog 9 (.t (.str s)) ((n:Int)+1)=some (.t (.int .u8 (c:Int))):=jW hc;have h0:nth0 s (n+1)=c:=by unfold nth0;rw[hc];rfl
  rw[h0];have hcc:((c:Int) != 34)=(c != 34):=by unfold bne;rw[← zBv c 34];rfl
  have hw2:IntKind.i64.wrap ((n:Int)+2)=(n:Int)+2:=by rw[wrap64]<;>omega
  have hsl1:∀g,slice Tryz.prog g 9 (.t (.str s)) none (some ((n:Int)+2)) none=some (.t (.str (s.take (n+2)))):=fun g=>zBF (n:=n+2) (by omega)
  have hsl2:∀g,slice Tryz.prog g 9 (.t (.str s)) (some 1) (some ((n:Int)+1)) none=some (.t (.str ((s.drop 1).take n))):=fun g=>by
   have:=zME (g:=g) (s:=s) (lo:=1) (hi:=n+1) (by omega) (by omega);rw[List.drop_take] at this;exact this
  have hpv:=hvp (s.take (n+2)) (by rw[List.length_take];omega);generalize vp (s.take (n+2))=r at *;obtain⟨⟨vk,vn,vs⟩,er⟩:=r;dsimp only at hpv ⊢;generalize (s.drop 1).take n=tx at *
  (repeat' first|refine gA ?_|refine gT ?_ ?_<;>intro hv|fail)
  all_goals refine aK ?_ ?_<;>(first|rfl|(clear F_;simp_all [uI,NoW,VZ];done))
 have hd:decide ((n:Int)+1 ≥ (s.length:Int))=true:=by simp;omega
 have h0:nth0 s (n+1)≠34:=by rw[zIQ (by omega)];decide
 rw[if_neg (fun h=>h0 h.1)]
 (refine gA ?_)
 all_goals refine aK ?_ ?_<;>(first|rfl|(clear F_;simp_all [uI,NoW,VZ];done))
def zQC(a b:List Nat):Om CC 183 [.t (.str a),.t (.str b)] []=some (.val (.t (.bool (beqL (a.take b.length) b))),[]):=by
 refine zK zQh rfl ?_
 (have F_:=c3 zG zD zVa;show W CC 0 18 (zA 183) _ ⟨[(0,_),(1,_)],[]⟩ _)
 by_cases h:b.length≤a.length
 ·have hd:decide ((a.length:Int) ≥ b.length)=true:=by simpa using h
  have hs:=fun g=>zBF (g:=g) (s:=a) (n:=b.length) h
  generalize hk:beqL (a.take b.length) b=k
  (refine gA ?_)
  all_goals refine aK ?_ ?_<;>(first|rfl|(clear F_;simp_all;done))
 have hd:decide ((a.length:Int) ≥ b.length)=false:=by simp;omega
 have hk:beqL (a.take b.length) b=false:=by
  cases h':beqL (a.take b.length) b with
  |false=>rfl
  |true =>
   have:=congrArg List.length (of_decide_eq_true ((vC _ _).symm.trans h'));rw[List.length_take] at this;omega
 rw[hk]
 (refine gA ?_)
 all_goals refine aK ?_ ?_<;>(first|rfl|(clear F_;simp_all;done))
def zHG(a b:List Nat):Om CC 125 [.t (.str a),.t (.str b)] []=some (.val (.t (.bool (beqL (a.take b.length) b))),[]):=by
 have h:=zQC a b;refine zK zQO rfl ?_
 (have F_:=c3 zD zUt zKD;show W CC 0 8 (zA 125) _ ⟨[(0,_),(1,_)],[]⟩ _)
 generalize beqL (a.take b.length) b=k at *
 (refine gA ?_)
 all_goals refine aK ?_ ?_<;>(first|rfl|(clear F_;simp_all;done))
def zSo:((List.range 256).all fun c=>decide (Lib.indexByte (ub signs1) (c:Int).toNat.toUInt8<0)==!(signs1.contains c))=true:=by decide +kernel
def zUT{c:Nat}(h:c<256):decide (Lib.indexByte (ub signs1) (c:Int).toNat.toUInt8<0)=!(signs1.contains c):=by
 have:=List.all_eq_true.1 zSo c (List.mem_range.2 h)
 simpa using this
def zHx{s a:List Nat}(h:beqL (s.take 2) a=false):s.take 2≠a:=fun h'=>by rw[vC,h'] at h;simp at h
def zG7{s a:List Nat}(h:beqL (s.take 2) a=true):s.take 2=a:=of_decide_eq_true ((vC _ _).symm.trans h)
def yA5 (s:List Nat) (h1:1≤s.length) (hb:nth0 s 0<256) (hs:s.length<9223372036854775807) :
  Om CC 158 [.t (.str s)] []=some (.val (uI (sgnX s)),[]):=by
 have p0:=zHG s [60,61];have p1:=zHG s [62,61];have p2:=zHG s [60,62];have p3:=zHG s [46,46];have hS:sgnX s=if s.take 2 ∈ signs2 then ((7,s.take 2,VZ),2,0) else if nth0 s 0 ∈ signs1 then ((7,[nth0 s 0],VZ),1,0) else NoW:=rfl
 simp only[List.length_cons,List.length_nil,Nat.zero_add,Nat.reduceAdd] at p0 p1 p2 p3;have x0:index Tryz.prog 275 (.t (.agg [.str [60,61],.str [62,61],.str [60,62],.str [46,46]])) 0=some (.t (.str [60,61])):=by kernel_rfl
 have x1:index Tryz.prog 275 (.t (.agg [.str [60,61],.str [62,61],.str [60,62],.str [46,46]])) 1=some (.t (.str [62,61])):=by kernel_rfl
 have x2:index Tryz.prog 275 (.t (.agg [.str [60,61],.str [62,61],.str [60,62],.str [46,46]])) 2=some (.t (.str [60,62])):=by kernel_rfl
 have x3:index Tryz.prog 275 (.t (.agg [.str [60,61],.str [62,61],.str [60,62],.str [46,46]])) 3=some (.t (.str [46,46])):=by kernel_rfl
 have hbd:build Tryz.prog 275 [(0,.t (.str [60,61])),(1,.t (.str [62,61])),(2,.t (.str [60,62])),(3,.t (.str [46,46]))]=some (.t (.agg [.str [60,61],.str [62,61],.str [60,62],.str [46,46]])):=by kernel_rfl
 have k1:IntKind.i64.wrap (0+1)=1:=rfl;have k2:IntKind.i64.wrap (1+1)=2:=rfl;have k3:IntKind.i64.wrap (2+1)=3:=rfl;have k4:IntKind.i64.wrap (3+1)=4:=rfl;refine zK zYx rfl ?_
 (have F_:=c5 zF zG zE zD (c5 zI zB zS yCd (c3 yBJ zBU yE4));show W CC 0 25 (zA 158) _ ⟨[(0,_)],[]⟩ _)
 (refine gA ?_)
 (refine aI ?_)
 cases b0:beqL (s.take 2) [60,61] with
 |true =>
  rw[b0] at p0;have hm:=zG7 b0;rw[hm] at hS;rw[hS]
  (repeat' first|refine gA ?_|refine gT ?_ ?_<;>intro hv<;>try cases hv;done|fail)
  all_goals refine aK ?_ ?_<;>(first|rfl|(clear F_;simp_all [uI,signs2,VZ];done))
 |false =>
 rw[b0] at p0
 (repeat' first|refine gA ?_|refine gT ?_ ?_<;>intro hv<;>try cases hv;done|fail)
 (refine aI ?_)
 cases b1:beqL (s.take 2) [62,61] with
 |true =>
  rw[b1] at p1;have hm:=zG7 b1;rw[hm] at hS;rw[hS]
  (repeat' first|refine gA ?_|refine gT ?_ ?_<;>intro hv<;>try cases hv;done|fail)
  all_goals refine aK ?_ ?_<;>(first|rfl|(clear F_;simp_all [uI,signs2,VZ];done))
 |false =>
 rw[b1] at p1
 (repeat' first|refine gA ?_|refine gT ?_ ?_<;>intro hv<;>try cases hv;done|fail)
 (refine aI ?_)
 cases b2:beqL (s.take 2) [60,62] with
 |true =>
  rw[b2] at p2;have hm:=zG7 b2;rw[hm] at hS;rw[hS]
  (repeat' first|refine gA ?_|refine gT ?_ ?_<;>intro hv<;>try cases hv;done|fail)
  all_goals refine aK ?_ ?_<;>(first|rfl|(clear F_;simp_all [uI,signs2,VZ];done))
 |false =>
 rw[b2] at p2
 (repeat' first|refine gA ?_|refine gT ?_ ?_<;>intro hv<;>try cases hv;done|fail)
 (refine aI ?_)
 cases b3:beqL (s.take 2) [46,46] with
 |true =>
  rw[b3] at p3;have hm:=zG7 b3;rw[hm] at hS;rw[hS]
  (repeat' first|refine gA ?_|refine gT ?_ ?_<;>intro hv<;>try cases hv;done|fail)
  all_goals refine aK ?_ ?_<;>(first|rfl|(clear F_;simp_all [uI,signs2,VZ];done))
 |false =>
 rw[b3] at p3
 (repeat' first|refine gA ?_|refine gT ?_ ?_<;>intro hv<;>try cases hv;done|fail)
 have hn2:s.take 2 ∉ signs2:=by
  have:=zHx b0;have:=zHx b1;have:=zHx b2;have:=zHx b3
  simp_all [signs2]
 rw[if_neg hn2] at hS;obtain⟨c,hc⟩:∃c,s[0]?=some c:=⟨_,List.getElem?_eq_getElem (by omega)⟩;have hx:index Tryz.prog 9 (.t (.str s)) 0=some (.t (.int .u8 (c:Int))):=jW hc;have h0:nth0 s 0=c:=by unfold nth0;rw[hc];rfl
 rw[h0] at hS hb;have hpr:CC.prim 203 [.t (.str signs1),.t (.int .u8 (c:Int))]=some (.t (.int .i64 (Lib.indexByte (ub signs1) (c:Int).toNat.toUInt8))):=rfl;have hz:=zUT hb;have hsl:∀g,slice Tryz.prog g 9 (.t (.str s)) none (some 1) none=some (.t (.str [c])):=fun g=>by
  have:=zBF (g:=g) (s:=s) (n:=1) h1;have e:s.take 1=[c]:=by
   cases s with
   |nil=>simp at hc
   |cons a r=>simp at hc;simp [hc]
  rw[e] at this;exact this
 generalize Lib.indexByte (ub signs1) (c:Int).toNat.toUInt8=z at *;simp only[signs1] at hpr
 (refine aI ?_)
 (repeat' first|refine gA ?_|refine gT ?_ ?_<;>intro hv<;>try cases hv;done|fail)
 all_goals refine aK ?_ ?_
 all_goals first
  |rfl
  |(have hm:c ∈ signs1:=(by simpa using hv);rw[hS,if_pos hm];rfl)
  |(have hm:c ∉ signs1:=(by simpa using hv);rw[hS,if_neg hm];rfl)
end Go.Ab
