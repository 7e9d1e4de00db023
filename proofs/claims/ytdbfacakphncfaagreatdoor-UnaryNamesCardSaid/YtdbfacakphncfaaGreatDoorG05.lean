/- Lemmas. -/
import Derived.Test.YtdbfacakphncfaaGreatDoorG03
import Derived.Test.YtdbfacakphncfaaGreatDoorG04
set_option maxRecDepth 1000000
set_option maxHeartbeats 40000000
set_option linter.all false
namespace Go.Ab
open Go.Proofs
attribute [local irreducible] W RW RR
def zJH(a b:Nat):Nat.ble a b=decide (a≤b):=by
 cases h:Nat.ble a b with
 |true=>rw[Nat.ble_eq] at h;simp [h]
 |false =>
  have:¬ a≤b:=fun hh=>by rw[← Nat.ble_eq,h] at hh;cases hh
  simp [this]
def zQj(c:Nat):yT c=(decide ((c:Int) ≥ 97)&&decide ((c:Int)≤122)):=by
 unfold yT;rw[zJH,zJH];congr 1<;>simp<;>omega
def zRK(c:Nat):yA c=(decide ((c:Int) ≥ 48)&&decide ((c:Int)≤57)):=by
 unfold yA;rw[zJH,zJH];congr 1<;>simp<;>omega
def zIk(c:Nat):Om CC 70 [.t (.int .u8 (c:Int))] []=some (.val (.t (.bool (yT c))),[]):=by
 rw[zQj];refine zL yCp rfl ?_
 (have F_:=c2 zE yIL;show W CC 0 9 (zA 70) _ ⟨[(0,_)],[]⟩ _)
 (repeat' first|refine gA ?_|refine gT ?_ ?_<;>intro hv|fail)
 all_goals refine aK ?_ ?_<;>(first|rfl|(simp_all;done)|(simp_all;omega))
def zD0(c:Nat):Om CC 72 [.t (.int .u8 (c:Int))] []=some (.val (.t (.bool (yA c))),[]):=by
 rw[zRK];refine zL yFC rfl ?_
 (have F_:=c2 zE yH5;show W CC 0 9 (zA 72) _ ⟨[(0,_)],[]⟩ _)
 (repeat' first|refine gA ?_|refine gT ?_ ?_<;>intro hv|fail)
 all_goals refine aK ?_ ?_<;>(first|rfl|(simp_all;done)|(simp_all;omega))
def zXB{p:Nat→Bool}{s:List Nat}{i:Nat}(hi:i<s.length):cntW p (s.drop i)=if p s[i] then cntW p (s.drop (i+1))+1 else 0:=by
 rw[List.drop_eq_getElem_cons hi,cntW]
def qX{s:List Nat}{i b:Nat}(h:s[i]?=some b):index Tryz.prog 9 (.t (.str s)) (i:Int)=some (.t (.int .u8 (b:Int))):=by
 simp [index,zF0,jO,h]
def zDX (f:FuncId) (p:Nat→Bool) (hf:∀c:Nat,Om CC f [.t (.int .u8 (c:Int))] []=some (.val (.t (.bool (p c))),[])) (hQ:yY Tryz.prog f=true) (hR:∀x,CC.prim f x=none) (s:List Nat) (i0:Nat) (h0:i0≤s.length)
  (hs:s.length<9223372036854775808):Om CC 67 [.t (.str s),.t (.int .i64 (i0:Int)),.t (.fn f)] []=some (.val (.t (.int .i64 (cntW p (s.drop i0):Nat))),[]):=by
 refine zL zU2 rfl ?_
 (have F_:=c5 zG zE zC zFC zX1;show W CC 0 25 (zA 67) _ ⟨[(0,_),(1,_),(2,_)],[]⟩ _)
 (refine gA ?_)
 refine yE (α:=Nat) (fun i=>⟨[(0,.t (.str s)),(1,.t (.int .i64 (i0:Int))),(2,.t (.fn f)),(7,.t (.int .i64 (i:Int)))],[]⟩) (fun i=>s.length - i)
  (fun i=>i0≤i∧i≤s.length∧cntW p (s.drop i0)=(i - i0)+cntW p (s.drop i)) i0 (by kernel_rfl) ⟨Nat.le_refl _,h0,by omega⟩ ?_
 rintro i ⟨hl,hi,hc⟩
 by_cases ha:i<s.length
 ·have hw:=wI64 i (by omega);have hd:decide ((i:Int)<s.length)=true:=by simpa using ha
  have he:s[i]?=some s[i]:=List.getElem?_eq_getElem ha;have hj:=zXB (p:=p) ha;have hu:=hf s[i];have hx:=qX he;generalize s[i]=b at *;cases hp:p b with
  |true =>
   rw[hp] at hu hj
   (refine gA ?_)
   refine zD (i+1) (by omega) ⟨by omega,by omega,?_⟩ (by exact aTd);rw[if_pos rfl] at hj;omega
  |false =>
   rw[hp] at hu hj;rw[if_neg (by simp)] at hj;have ho:IntKind.i64.wrap ((i:Int) - (i0:Int))=((cntW p (s.drop i0):Nat):Int):=by rw[wrap64]<;>omega
   (refine gA ?_)
   all_goals refine aK ?_ ?_<;>(first|rfl|(simp_all;done))
 obtain rfl:i=s.length:=by omega
 have hd:decide ((s.length:Int)<s.length)=false:=by simp
 have hz:cntW p (s.drop s.length)=0:=by rw[List.drop_length];rfl
 have ho:IntKind.i64.wrap ((s.length:Int) - (i0:Int))=((cntW p (s.drop i0):Nat):Int):=by rw[wrap64]<;>omega
 (refine gA ?_)
 all_goals refine aK ?_ ?_<;>(first|rfl|(simp_all;done))
def zPJ(c:Nat):Om CC 71 [.t (.int .u8 (c:Int))] []=some (.val (.t (.bool (yF c))),[]):=by
 have h1:=zIk c;have h2:=zD0 c;refine zL yGK rfl ?_
 (have F_:=c3 zE yHt (c2 zSi zK5);show W CC 0 9 (zA 71) _ ⟨[(0,_)],[]⟩ _)
 cases hl:yT c with
 |true =>
  have hn:yF c=true:=by simp [yF,hl]
  rw[hl] at h1
  (refine gA ?_)
  all_goals refine aK ?_ ?_<;>(first|rfl|(simp_all;done))
 |false =>
  have hn:yF c=yA c:=by simp [yF,hl]
  rw[hl] at h1
  (refine gA ?_)
  all_goals refine aK ?_ ?_<;>(first|rfl|(simp_all;done))
def zNV{g:Look}{s:List Nat}{lo hi:Nat}(h1:lo≤hi)(h2:hi≤s.length):slice Tryz.prog g 9 (.t (.str s)) (some (lo:Int)) (some (hi:Int)) none=some (.t (.str ((s.take hi).drop lo))):=by
 have e:(0:Int)≤(lo:Int)∧(lo:Int)≤(hi:Int)∧(hi:Int)≤(s.length:Int):=by omega
 simp [slice,zF0,h1,h2]
def zUi (s:List Nat) (hs:s.length<9223372036854775808) :
  Om CC 69 [.t (.str s)] []=some (.val (.tup [.t (.str (if yT (nth0 s 1) then (s.drop 1).take (cntW yF (s.drop 1)) else [])),.t (.bool (yT (nth0 s 1)))]),[]):=by
 refine zL yFA rfl ?_
 (have F_:=c5 zG zP zE zC (c3 zFC yHT (c2 zSi zL0));show W CC 0 18 (zA 69) _ ⟨[(0,_)],[]⟩ _)
 match s,hs with
 |[],_ =>
  (repeat' first|refine gA ?_|refine gT ?_ ?_<;>intro hv<;>try cases hv;done|fail)
  all_goals refine aK ?_ ?_<;>(first|rfl|(simp_all;done))
 |[a],_ =>
  (repeat' first|refine gA ?_|refine gT ?_ ?_<;>intro hv<;>try cases hv;done|fail)
  all_goals refine aK ?_ ?_<;>(first|rfl|(simp_all;done))
 |a::b::r,hs =>
  have e1:nth0 (a::b::r) 1=b:=rfl;have e2:(a::b::r).drop 1=b::r:=rfl;rw[e1,e2];have h1:=zIk b;have hx:index Tryz.prog 9 (.t (.str (a::b::r))) 1=some (.t (.int .u8 (b:Int))):=qX (s:=a::b::r) (i:=1) (b:=b) rfl;cases hl:yT b with
  |true =>
   rw[hl] at h1;have hw:Om CC 67 [.t (.str (a::b::r)),.t (.int .i64 1),.t (.fn 71)] []=some (.val (.t (.int .i64 (cntW yF (b::r):Nat))),[]):=zDX 71 yF zPJ zX4 (fun x=>zX _ x (by decide)) (a::b::r) 1 (by simp) hs;have hc:=zAB yF (b::r);have hU:(b::r).length+1<9223372036854775808:=by simpa using hs
   have hV:IntKind.i64.wrap (1+((cntW yF (b::r):Nat):Int))=((1+cntW yF (b::r):Nat):Int):=by rw[wrap64]<;>omega
   have hF:∀g,slice Tryz.prog g 9 (.t (.str (a::b::r))) (some 1) (some ((1+cntW yF (b::r):Nat):Int)) none=some (.t (.str ((b::r).take (cntW yF (b::r))))):=fun g=>by
    have:=zNV (g:=g) (s:=a::b::r) (lo:=1) (hi:=1+cntW yF (b::r)) (by omega) (by simp only[List.length_cons] at hc ⊢;omega);rw[Nat.add_comm 1,List.take_succ_cons] at this;rw[Nat.add_comm 1];exact this
   generalize cntW yF (b::r)=n at *
   (repeat' first|refine gA ?_|refine gT ?_ ?_<;>intro hv<;>try cases hv;done|fail)
   all_goals refine aK ?_ ?_<;>(first|rfl|(simp_all;done))
  |false =>
   rw[hl] at h1
   (repeat' first|refine gA ?_|refine gT ?_ ?_<;>intro hv<;>try cases hv;done|fail)
   all_goals refine aK ?_ ?_<;>(first|rfl|(simp_all;done))
def VPH(vp:List Nat→Val×Int):Prop:=∀s:List Nat,s.length<9223372036854775808 →
 Om CC 105 [.t (.str s)] []=some (.val (.tup [.t (.agg [.int .u8 (vp s).1.k,.int .i64 (vp s).1.n,.str (vp s).1.s]),.t (.int .i64 (vp s).2)]),[])
def uA(x:BTok×Nat×Int):AV :=
 .tup [.t (.agg [.int .u8 x.1.1,.str x.1.2.1,.int .u8 x.1.2.2.k,.int .i64 x.1.2.2.n,.str x.1.2.2.s,.int .i64 0,.int .i64 0]),.t (.int .i64 (x.2.1:Nat)),.t (.int .i64 x.2.2)]
def zBk{g:Look}{s:List Nat}{n:Nat}(h:n≤s.length):slice Tryz.prog g 9 (.t (.str s)) none (some (n:Int)) none=some (.t (.str (s.take n))):=by
 simp [slice,zF0,h]
def zUq {vp:List Nat→Val×Int} (hy:VPH vp) (s:List Nat) (hs:s.length<9223372036854775807) :
  Om CC 73 [.t (.str s)] []=some (.val (uA (numX vp s)),[]):=by
 have hn:=zI8 s;have w0:Om CC 67 [.t (.str s),.t (.int .i64 0),.t (.fn 72)] []=some (.val (.t (.int .i64 (cntW yA s:Nat))),[]) :=
  zDX 72 yA zD0 zK5 (fun x=>zX _ x (by decide)) s 0 (by simp) (by omega)
 have hc:=zAB yA s;have ht:=hy (s.take (numN s)) (by rw[List.length_take];omega);have hW:∀g,slice Tryz.prog g 9 (.t (.str s)) none (some (numN s:Int)) none=some (.t (.str (s.take (numN s)))):=fun g=>zBk hn
 have key:numN s=cntW yA s∧(∀c d,s[cntW yA s]?=some c→s[cntW yA s+1]?=some d→c=46→yA d=false) ∨
   (cntW yA s+1<s.length∧(∃d,s[cntW yA s]?=some 46∧s[cntW yA s+1]?=some d∧yA d=true)∧numN s=cntW yA s+1+cntW yA (s.drop (cntW yA s+1))):=by
  by_cases h:nth0 s (cntW yA s)=46∧yA (nth0 s (cntW yA s+1))=true
  ·right
   have h3:cntW yA s+1<s.length:=by
    rcases Nat.lt_or_ge (cntW yA s+1) s.length with h'|h'
    ·exact h'
    rw[zFh h'] at h;exact absurd h.2 (by decide)
   refine⟨h3,⟨nth0 s (cntW yA s+1),?_,?_,h.2⟩,?_⟩
   ·rw[← h.1];unfold nth0;rw[List.getElem?_eq_getElem (by omega)];rfl
   ·unfold nth0;rw[List.getElem?_eq_getElem h3];rfl
   unfold numN;simp only[h,and_self,if_true]
  left
  refine⟨by unfold numN;simp only;rw[if_neg h],fun c d h1 h2 h3=>?_⟩;cases hd:yA d with
  |false=>rfl
  |true=>exact absurd ⟨by unfold nth0;rw[h1];exact h3,by unfold nth0;rw[h2];exact hd⟩ h
 have hN:(numX vp s)=((4,s.take (numN s),(vp (s.take (numN s))).1),numN s,if (vp (s.take (numN s))).2=0∨(vp (s.take (numN s))).2=9 then (vp (s.take (numN s))).2 else 4):=rfl;rw[hN];generalize (vp (s.take (numN s)))=r at ht ⊢;obtain⟨⟨vk,vn,vs⟩,e⟩:=r;dsimp only at ht ⊢;generalize hX:cntW yA s=n0 at w0 hc key;generalize numN s=n at *;refine zL yEo rfl ?_
 (have F_:=c5 zF zG zE zC (c5 zB zK zR zU (c5 zFC yH6 zL0 zK5 zVa));show W CC 0 53 (zA 73) _ ⟨[(0,_)],[]⟩ _)
 have hG:IntKind.i64.wrap ((n0:Int)+1)=(n0:Int)+1:=by rw[wrap64]<;>omega
 rcases key with ⟨rfl,key⟩|⟨h3,⟨d,e1,e2,hd⟩,hH⟩
 ·by_cases h3:n+1<s.length
  ·have hD:decide ((n:Int)+1<(s.length:Int))=true:=by simp;omega
   obtain⟨c,hA⟩:∃c,s[n]?=some c:=⟨_,List.getElem?_eq_getElem (by omega)⟩;obtain⟨d,hE⟩:∃d,s[n+1]?=some d:=⟨_,List.getElem?_eq_getElem h3⟩;have hI:=qX hA;have hJ:index Tryz.prog 9 (.t (.str s)) ((n:Int)+1)=some (.t (.int .u8 (d:Int))):=qX hE;have hC:=zD0 d
   by_cases hq:c=46
   ·have:=key c d hA hE hq;subst hq;rw[this] at hC
    (repeat' first|refine gA ?_|refine gT ?_ ?_<;>intro hv<;>try cases hv;done|fail)
    all_goals refine aK ?_ ?_<;>(first|rfl|(clear F_;simp_all [uA];done))
   have hY:((c:Int)==46)=false:=by simp;omega
   (repeat' first|refine gA ?_|refine gT ?_ ?_<;>intro hv|fail)
   all_goals refine aK ?_ ?_<;>(first|rfl|(clear F_;simp_all [uA];done))
  have hD:decide ((n:Int)+1<(s.length:Int))=false:=by simp;omega
  (repeat' first|refine gA ?_|refine gT ?_ ?_<;>intro hv|fail)
  all_goals refine aK ?_ ?_<;>(first|rfl|(clear F_;simp_all [uA];done))
 have hD:decide ((n0:Int)+1<(s.length:Int))=true:=by simp;omega
 have hI:=qX e1;have hJ:index Tryz.prog 9 (.t (.str s)) ((n0:Int)+1)=some (.t (.int .u8 (d:Int))):=qX e2;have hC:=zD0 d;rw[hd] at hC;have hZ:Om CC 67 [.t (.str s),.t (.int .i64 ((n0:Int)+1)),.t (.fn 72)] []=some (.val (.t (.int .i64 (cntW yA (s.drop (n0+1)):Nat))),[]) :=
  zDX 72 yA zD0 zK5 (fun x=>zX _ x (by decide)) s (n0+1) (by omega) (by omega)
 generalize cntW yA (s.drop (n0+1))=m at *;have ho:IntKind.i64.wrap (1+(m:Int))=1+(m:Int):=by rw[wrap64]<;>omega
 have h5:IntKind.i64.wrap ((n0:Int)+(1+(m:Int)))=(n:Int):=by rw[wrap64]<;>omega
 clear hH
 (repeat' first|refine gA ?_|refine gT ?_ ?_<;>intro hv<;>try cases hv;done|fail)
 all_goals refine aK ?_ ?_<;>(first|rfl|(clear F_;simp_all [uA];done))
def zBf(c d:Nat):((c:Int)==(d:Int))=(c==d):=by
 cases h:(c==d)<;>simp_all;omega
def yGN(c d:Nat):decide ((c:Int)<(d:Int))=Nat.blt c d:=by rw[zB6];congr 1;simp
def yJp(c d:Nat):decide ((c:Int) > (d:Int))=Nat.blt d c:=by rw[zB6];congr 1;simp
def yEu(c:Nat)(esc:Bool):Om CC 106 [.t (.int .u8 (c:Int)),.box 0 0] [.box [.t (.bool esc)]] =
  some (.val (.t (.bool (!((c==34&&!esc)||Nat.blt c 32||Nat.blt 126 c)))),[.box [.t (.bool (c==92&&!esc))]]):=by
 refine zL yAo rfl ?_
 (have F_:=c3 zP zE yCj;show W CC 1 27 (zA 106) _ ⟨[(0,_),(1,_)],[_]⟩ _)
 have h1:((c:Int)==34)=(c==34):=zBf c 34;have h2:((c:Int)==92)=(c==92):=zBf c 92;have h3:decide ((c:Int)<32)=Nat.blt c 32:=yGN c 32;have h4:decide ((c:Int) > 126)=Nat.blt 126 c:=yJp c 126;generalize (c==34)=b1 at *;generalize (c==92)=b2 at *;generalize Nat.blt c 32=b3 at *;generalize Nat.blt 126 c=b4 at *
 (repeat' first|refine gA ?_|refine gT ?_ ?_<;>intro hv|fail)
 all_goals refine aK ?_ ?_<;>(clear F_;simp_all;done)
def zTY{s:List Nat}{i:Nat}{e:Bool}(hi:i<s.length):strN e (s.drop i)=if (s[i]==34&&!e)||Nat.blt s[i] 32||Nat.blt 126 s[i] then 0 else strN (s[i]==92&&!e) (s.drop (i+1))+1:=by
 rw[List.drop_eq_getElem_cons hi,strN]
def zTG (s:List Nat) (i0:Nat) (e0:Bool) (h0:i0≤s.length) (hs:s.length<9223372036854775808) :
  ∃e:Bool,Om CC 67 [.t (.str s),.t (.int .i64 (i0:Int)),.fn 106 [] [.box 0 0]] [.box [.t (.bool e0)]]=some (.val (.t (.int .i64 (strN e0 (s.drop i0):Nat))),[.box [.t (.bool e)]]):=by
 suffices hh:∃o h',Om CC 67 [.t (.str s),.t (.int .i64 (i0:Int)),.fn 106 [] [.box 0 0]] [.box [.t (.bool e0)]]=some (o,h')∧(o=.val (.t (.int .i64 (strN e0 (s.drop i0):Nat)))∧∃e,h'=[.box [.t (.bool e)]]) by
  obtain⟨o,h',h1,rfl,e,rfl⟩:=hh;exact⟨e,h1⟩
 refine xU zU2 rfl ?_ (by kernel_rfl)
 (have F_:=c5 zG zE zC zFC (c2 zX1 yDg);show W CC 1 25 (zA 67) _ ⟨[(0,_),(1,_),(2,_)],[_]⟩ _)
 (refine gA ?_)
 refine yE (α:=Nat×Bool) (fun a=>⟨[(0,.t (.str s)),(1,.t (.int .i64 (i0:Int))),(2,.fn 106 [] [.box 0 0]),(7,.t (.int .i64 (a.1:Int)))],[.box [.t (.bool a.2)]]⟩) (fun a=>s.length - a.1)
  (fun a=>i0≤a.1∧a.1≤s.length∧strN e0 (s.drop i0)=(a.1 - i0)+strN a.2 (s.drop a.1)) (i0,e0) (by exact aTd) ⟨Nat.le_refl _,h0,by simp⟩ ?_
 rintro⟨i,e⟩ ⟨hl,hi,hc⟩;dsimp only at hl hi hc ⊢
 by_cases ha:i<s.length
 ·have hw:=wI64 i (by omega);have hd:decide ((i:Int)<s.length)=true:=by simpa using ha
  have he:s[i]?=some s[i]:=List.getElem?_eq_getElem ha;have hj:=zTY (e:=e) ha;have hu:=yEu s[i] e;have hx:=qX he;generalize s[i]=b at *;generalize ((b==34&&!e)||Nat.blt b 32||Nat.blt 126 b)=p at *;generalize (b==92&&!e)=e' at *;cases p with
  |false =>
   (refine gA ?_)
   refine zD (i+1,e') (by dsimp only;omega) ⟨by dsimp only;omega,by dsimp only;omega,?_⟩ (by exact aTd);rw[if_neg (by simp)] at hj;dsimp only;omega
  |true =>
   rw[if_pos rfl] at hj;have ho:IntKind.i64.wrap ((i:Int) - (i0:Int))=((strN e0 (s.drop i0):Nat):Int):=by rw[wrap64]<;>omega
   (refine gA ?_)
   all_goals refine aJ ?_<;>exact⟨by(clear F_;simp_all),_,rfl⟩
 obtain rfl:i=s.length:=by omega
 have hd:decide ((s.length:Int)<s.length)=false:=by simp
 have hz:strN e (s.drop s.length)=0:=by rw[List.drop_length];cases e<;>rfl
 have ho:IntKind.i64.wrap ((s.length:Int) - (i0:Int))=((strN e0 (s.drop i0):Nat):Int):=by rw[wrap64]<;>omega
 (refine gA ?_)
 all_goals refine aJ ?_<;>exact⟨by(clear F_;simp_all),_,rfl⟩
def yBx {vp:List Nat→Val×Int} (hy:VPH vp) (s:List Nat) (h1:1≤s.length) (hs:s.length<9223372036854775807) :
  Om CC 74 [.t (.str s)] []=some (.val (uA (zLv vp s)),[]):=by
 obtain⟨e,w0⟩:=zTG s 1 false h1 (by omega);have hn:=zRe (s.drop 1) false;rw[List.length_drop] at hn;have hT:zLv vp s=if nth0 s (strN false (s.drop 1)+1)=34∧(vp (s.take (strN false (s.drop 1)+2))).2=0 then
  ((5,(s.drop 1).take (strN false (s.drop 1)),(vp (s.take (strN false (s.drop 1)+2))).1),strN false (s.drop 1)+2,0) else NoW:=rfl
 rw[hT];clear hT;have w1:Om CC 67 [.t (.str s),.t (.int .i64 1),.fn 106 [] [.box 0 0]] [.box [.t (.bool false)]]=some (.val (.t (.int .i64 (strN false (s.drop 1):Nat))),[.box [.t (.bool e)]]):=w0;clear w0;generalize strN false (s.drop 1)=n at *;have hG:IntKind.i64.wrap (1+(n:Int))=(n:Int)+1:=by rw[wrap64]<;>omega
 refine zL yBP rfl ?_
 (have F_:=c5 zF zG zP zE (c5 zC zB zK zR (c5 zU zFC yH1 zL0 zVa));show W CC 0 42 (zA 74) _ ⟨[(0,_)],[]⟩ _)
 by_cases h2:n+1<s.length
 ·have hd:decide ((n:Int)+1 ≥ (s.length:Int))=false:=by simp;omega
  obtain⟨c,hc⟩:∃c,s[n+1]?=some c:=⟨_,List.getElem?_eq_getElem h2⟩;have hx:index Tryz.prog 9 (.t (.str s)) ((n:Int)+1)=some (.t (.int .u8 (c:Int))):=qX hc;have h0:nth0 s (n+1)=c:=by unfold nth0;rw[hc];rfl
  rw[h0];have hA:((c:Int) != 34)=(c != 34):=by unfold bne;rw[← zBf c 34];rfl
  have ho:IntKind.i64.wrap ((n:Int)+2)=(n:Int)+2:=by rw[wrap64]<;>omega
  have hL:∀g,slice Tryz.prog g 9 (.t (.str s)) none (some ((n:Int)+2)) none=some (.t (.str (s.take (n+2)))):=fun g=>zBk (n:=n+2) (by omega)
  have hM:∀g,slice Tryz.prog g 9 (.t (.str s)) (some 1) (some ((n:Int)+1)) none=some (.t (.str ((s.drop 1).take n))):=fun g=>by
   have:=zNV (g:=g) (s:=s) (lo:=1) (hi:=n+1) (by omega) (by omega);rw[List.drop_take] at this;exact this
  have ht:=hy (s.take (n+2)) (by rw[List.length_take];omega);generalize vp (s.take (n+2))=r at *;obtain⟨⟨vk,vn,vs⟩,er⟩:=r;dsimp only at ht ⊢;generalize (s.drop 1).take n=tx at *
  (repeat' first|refine gA ?_|refine gT ?_ ?_<;>intro hv|fail)
  all_goals refine aK ?_ ?_<;>(first|rfl|(clear F_;simp_all [uA,NoW,VZ];done))
 have hd:decide ((n:Int)+1 ≥ (s.length:Int))=true:=by simp;omega
 have h0:nth0 s (n+1)≠34:=by rw[zFh (by omega)];decide
 rw[if_neg (fun h=>h0 h.1)]
 (refine gA ?_)
 all_goals refine aK ?_ ?_<;>(first|rfl|(clear F_;simp_all [uA,NoW,VZ];done))
def zRj(a b:List Nat):Om CC 161 [.t (.str a),.t (.str b)] []=some (.val (.t (.bool (beqL (a.take b.length) b))),[]):=by
 refine zL zQs rfl ?_
 (have F_:=c3 zG zC zTu;show W CC 0 18 (zA 161) _ ⟨[(0,_),(1,_)],[]⟩ _)
 by_cases h:b.length≤a.length
 ·have hd:decide ((a.length:Int) ≥ b.length)=true:=by simpa using h
  have hs:=fun g=>zBk (g:=g) (s:=a) (n:=b.length) h
  generalize hk:beqL (a.take b.length) b=k
  (refine gA ?_)
  all_goals refine aK ?_ ?_<;>(first|rfl|(clear F_;simp_all;done))
 have hd:decide ((a.length:Int) ≥ b.length)=false:=by simp;omega
 have hk:beqL (a.take b.length) b=false:=by
  cases h':beqL (a.take b.length) b with
  |false=>rfl
  |true =>
   have:=congrArg List.length (of_decide_eq_true ((wV _ _).symm.trans h'));rw[List.length_take] at this;omega
 rw[hk]
 (refine gA ?_)
 all_goals refine aK ?_ ?_<;>(first|rfl|(clear F_;simp_all;done))
def zHU(a b:List Nat):Om CC 107 [.t (.str a),.t (.str b)] []=some (.val (.t (.bool (beqL (a.take b.length) b))),[]):=by
 have h:=zRj a b;refine zL zQ6 rfl ?_
 (have F_:=c3 zC zVK zL3;show W CC 0 8 (zA 107) _ ⟨[(0,_),(1,_)],[]⟩ _)
 generalize beqL (a.take b.length) b=k at *
 (refine gA ?_)
 all_goals refine aK ?_ ?_<;>(first|rfl|(clear F_;simp_all;done))
def zSn:((List.range 256).all fun c=>decide (Lib.indexByte (ub signs1) (c:Int).toNat.toUInt8<0)==!(signs1.contains c))=true:=by decide +kernel
def zVY{c:Nat}(h:c<256):decide (Lib.indexByte (ub signs1) (c:Int).toNat.toUInt8<0)=!(signs1.contains c):=by
 have:=List.all_eq_true.1 zSn c (List.mem_range.2 h)
 simpa using this
def zHH{s a:List Nat}(h:beqL (s.take 2) a=false):s.take 2≠a:=fun h'=>by rw[wV,h'] at h;simp at h
def zHa{s a:List Nat}(h:beqL (s.take 2) a=true):s.take 2=a:=of_decide_eq_true ((wV _ _).symm.trans h)
def yAX (s:List Nat) (h1:1≤s.length) (hb:nth0 s 0<256) (hs:s.length<9223372036854775807) :
  Om CC 75 [.t (.str s)] []=some (.val (uA (sgnX s)),[]):=by
 have p0:=zHU s [60,61];have p1:=zHU s [62,61];have p2:=zHU s [60,62];have p3:=zHU s [46,46];have hS:sgnX s=if s.take 2 ∈ signs2 then ((7,s.take 2,VZ),2,0) else if nth0 s 0 ∈ signs1 then ((7,[nth0 s 0],VZ),1,0) else NoW:=rfl
 simp only[List.length_cons,List.length_nil,Nat.zero_add,Nat.reduceAdd] at p0 p1 p2 p3;have x0:index Tryz.prog 175 (.t (.agg [.str [60,61],.str [62,61],.str [60,62],.str [46,46]])) 0=some (.t (.str [60,61])):=by kernel_rfl
 have x1:index Tryz.prog 175 (.t (.agg [.str [60,61],.str [62,61],.str [60,62],.str [46,46]])) 1=some (.t (.str [62,61])):=by kernel_rfl
 have x2:index Tryz.prog 175 (.t (.agg [.str [60,61],.str [62,61],.str [60,62],.str [46,46]])) 2=some (.t (.str [60,62])):=by kernel_rfl
 have x3:index Tryz.prog 175 (.t (.agg [.str [60,61],.str [62,61],.str [60,62],.str [46,46]])) 3=some (.t (.str [46,46])):=by kernel_rfl
 have h6:build Tryz.prog 175 [(0,.t (.str [60,61])),(1,.t (.str [62,61])),(2,.t (.str [60,62])),(3,.t (.str [46,46]))]=some (.t (.agg [.str [60,61],.str [62,61],.str [60,62],.str [46,46]])):=by kernel_rfl
 have k1:IntKind.i64.wrap (0+1)=1:=rfl;have k2:IntKind.i64.wrap (1+1)=2:=rfl;have k3:IntKind.i64.wrap (2+1)=3:=rfl;have k4:IntKind.i64.wrap (3+1)=4:=rfl;refine zL yFu rfl ?_
 (have F_:=c5 zF zG zE zC (c5 zB zK zU yGn (c3 yHF zBi yGw));show W CC 0 25 (zA 75) _ ⟨[(0,_)],[]⟩ _)
 (refine gA ?_)
 (refine aI ?_)
 cases b0:beqL (s.take 2) [60,61] with
 |true =>
  rw[b0] at p0;have hm:=zHa b0;rw[hm] at hS;rw[hS]
  (repeat' first|refine gA ?_|refine gT ?_ ?_<;>intro hv<;>try cases hv;done|fail)
  all_goals refine aK ?_ ?_<;>(first|rfl|(clear F_;simp_all [uA,signs2,VZ];done))
 |false =>
 rw[b0] at p0
 (repeat' first|refine gA ?_|refine gT ?_ ?_<;>intro hv<;>try cases hv;done|fail)
 (refine aI ?_)
 cases b1:beqL (s.take 2) [62,61] with
 |true =>
  rw[b1] at p1;have hm:=zHa b1;rw[hm] at hS;rw[hS]
  (repeat' first|refine gA ?_|refine gT ?_ ?_<;>intro hv<;>try cases hv;done|fail)
  all_goals refine aK ?_ ?_<;>(first|rfl|(clear F_;simp_all [uA,signs2,VZ];done))
 |false =>
 rw[b1] at p1
 (repeat' first|refine gA ?_|refine gT ?_ ?_<;>intro hv<;>try cases hv;done|fail)
 (refine aI ?_)
 cases b2:beqL (s.take 2) [60,62] with
 |true =>
  rw[b2] at p2;have hm:=zHa b2;rw[hm] at hS;rw[hS]
  (repeat' first|refine gA ?_|refine gT ?_ ?_<;>intro hv<;>try cases hv;done|fail)
  all_goals refine aK ?_ ?_<;>(first|rfl|(clear F_;simp_all [uA,signs2,VZ];done))
 |false =>
 rw[b2] at p2
 (repeat' first|refine gA ?_|refine gT ?_ ?_<;>intro hv<;>try cases hv;done|fail)
 (refine aI ?_)
 cases b3:beqL (s.take 2) [46,46] with
 |true =>
  rw[b3] at p3;have hm:=zHa b3;rw[hm] at hS;rw[hS]
  (repeat' first|refine gA ?_|refine gT ?_ ?_<;>intro hv<;>try cases hv;done|fail)
  all_goals refine aK ?_ ?_<;>(first|rfl|(clear F_;simp_all [uA,signs2,VZ];done))
 |false =>
 rw[b3] at p3
 (repeat' first|refine gA ?_|refine gT ?_ ?_<;>intro hv<;>try cases hv;done|fail)
 have hO:s.take 2 ∉ signs2:=by
  have:=zHH b0;have:=zHH b1;have:=zHH b2;have:=zHH b3
  simp_all [signs2]
 rw[if_neg hO] at hS;obtain⟨c,hc⟩:∃c,s[0]?=some c:=⟨_,List.getElem?_eq_getElem (by omega)⟩;have hx:index Tryz.prog 9 (.t (.str s)) 0=some (.t (.int .u8 (c:Int))):=qX hc;have h0:nth0 s 0=c:=by unfold nth0;rw[hc];rfl
 rw[h0] at hS hb;have hP:CC.prim 108 [.t (.str signs1),.t (.int .u8 (c:Int))]=some (.t (.int .i64 (Lib.indexByte (ub signs1) (c:Int).toNat.toUInt8))):=rfl;have hz:=zVY hb;have hF:∀g,slice Tryz.prog g 9 (.t (.str s)) none (some 1) none=some (.t (.str [c])):=fun g=>by
  have:=zBk (g:=g) (s:=s) (n:=1) h1;have e:s.take 1=[c]:=by
   cases s with
   |nil=>simp at hc
   |cons a r=>simp at hc;simp [hc]
  rw[e] at this;exact this
 generalize Lib.indexByte (ub signs1) (c:Int).toNat.toUInt8=z at *;simp only[signs1] at hP
 (refine aI ?_)
 (repeat' first|refine gA ?_|refine gT ?_ ?_<;>intro hv<;>try cases hv;done|fail)
 all_goals refine aK ?_ ?_
 all_goals first
  |rfl
  |(have hm:c ∈ signs1:=(by simpa using hv);rw[hS,if_pos hm];rfl)
  |(have hm:c ∉ signs1:=(by simpa using hv);rw[hS,if_neg hm];rfl)
end Go.Ab
