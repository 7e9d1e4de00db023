/- Lemmas. -/
import Derived.Test.YtdbfacakphncfaaGreatDoorG05
set_option maxRecDepth 1000000
set_option maxHeartbeats 40000000
set_option linter.all false
namespace Go.Ab
open Go.Proofs
attribute [local irreducible] W RW RR
def zQx {vp:List Nat→Val×Int} (hj:VPH vp) (s:List Nat) (h1:1≤s.length) (hb:nth0 s 0<256) (hs:s.length<9223372036854775807) :
  Om CC 35 [.t (.str s)] []=some (.val (uA (kK vp s)),[]):=by
 unfold kK;have q1:=zUi s (by omega);have q2:=zUq hj s hs;have q3:=yBx hj s h1 hs;have q4:=yAX s h1 hb hs;have ho:(if yT (nth0 s 1) then (s.drop 1).take (cntW yF (s.drop 1)) else [])=ownX s:=rfl;rw[ho] at q1;have hM:(ownX s).length<s.length:=by
  unfold ownX;split
  ·rw[List.length_take,List.length_drop];omega
  exact h1
 obtain⟨c,hc⟩:∃c,s[0]?=some c:=⟨_,List.getElem?_eq_getElem (by omega)⟩;have hx:index Tryz.prog 9 (.t (.str s)) 0=some (.t (.int .u8 (c:Int))):=qX hc;have h0:nth0 s 0=c:=by unfold nth0;rw[hc];rfl
 rw[h0];have e1:((c:Int)==34)=(c==34):=zBf c 34;have e2:((c:Int)==63)=(c==63):=zBf c 63;have e3:((c:Int)==35)=(c==35):=zBf c 35;have l1:=zIk c;have l2:=zD0 c;have w0:Om CC 67 [.t (.str s),.t (.int .i64 0),.t (.fn 71)] []=some (.val (.t (.int .i64 (cntW yF s:Nat))),[]) :=
  zDX 71 yF zPJ zX4 (fun x=>zX _ x (by decide)) s 0 (by simp) (by omega)
 have hF:=zAB yF s;have hN:∀g,slice Tryz.prog g 9 (.t (.str s)) none (some (cntW yF s:Int)) none=some (.t (.str (s.take (cntW yF s)))):=fun g=>zBk hF
 have hO:IntKind.i64.wrap (1+((ownX s).length:Int))=((1+(ownX s).length:Nat):Int):=by rw[wrap64]<;>omega
 refine zL yCV rfl ?_
 (have F_:=c5 zF zG zE zC (c5 zB zK zU zFC (c5 yIk yIc zSi zL0 (c3 zK5 yHR (c2 yIA yIG))));show W CC 0 83 (zA 35) _ ⟨[(0,_)],[]⟩ _)
 generalize hD:numX vp s=N1 at *;generalize zLv vp s=N2 at *;generalize sgnX s=N3 at *;generalize ownX s=own at *;generalize cntW yF s=n at *;obtain⟨⟨a1,a2,⟨a3,a4,a5⟩⟩,a6,a7⟩:=N1;obtain⟨⟨b1,b2,⟨b3,b4,b5⟩⟩,b6,b7⟩:=N2;obtain⟨⟨c1,c2,⟨c3,c4,c5⟩⟩,c6,c7⟩:=N3;simp only[uA] at q2 q3 q4;generalize s.take n=tk at *;have d1:decide ((tk.length:Int) > 12)=decide (12<tk.length):=by congr 1;simp;omega
 have d2:decide ((own.length:Int) > 12)=decide (12<own.length):=by congr 1;simp;omega
 have er1:errL tk=if 12<tk.length then 4 else 0:=rfl
 have er2:errL own=if 12<own.length then 4 else 0:=rfl
 cases hl:yT c with
 |true =>
  rw[hl] at l1;rw[if_pos rfl]
  (repeat' first|refine gA ?_|refine gT ?_ ?_<;>intro hv|fail)
  all_goals refine aK ?_ ?_<;>(first|rfl|(clear F_;simp_all [uA,VZ];done))
 |false =>
 rw[hl] at l1;rw[if_neg (by simp)];cases hd:yA c with
 |true =>
  rw[hd] at l2;rw[if_pos rfl]
  (refine gA ?_)
  all_goals refine aK ?_ ?_<;>(first|rfl|(clear F_;simp_all [uA,VZ];done))
 |false =>
 rw[hd] at l2;rw[if_neg (by simp)]
 by_cases c34:c=34
 ·subst c34;rw[if_pos rfl]
  (refine gA ?_)
  all_goals refine aK ?_ ?_<;>(first|rfl|(clear F_;simp_all [uA,VZ];done))
 rw[if_neg c34];have f1:(c==34)=false:=by simpa using c34
 rw[f1] at e1
 by_cases c63:c=63
 ·subst c63;cases hi:yT (nth0 s 1) with
  |true =>
   rw[hi] at q1;rw[if_pos ⟨rfl,rfl⟩]
   (repeat' first|refine gA ?_|refine gT ?_ ?_<;>intro hv|fail)
   all_goals refine aK ?_ ?_<;>(first|rfl|(clear F_;simp_all [uA,VZ];done))
  |false =>
   rw[hi] at q1;rw[if_neg (by simp),if_pos rfl]
   (refine gA ?_)
   all_goals refine aK ?_ ?_<;>(first|rfl|(clear F_;simp_all [uA,VZ];done))
 have f2:(c==63)=false:=by simpa using c63
 rw[f2] at e2;rw[if_neg (fun h=>c63 h.1),if_neg c63]
 by_cases c35:c=35∧yT (nth0 s 1)=true
 ·obtain⟨rfl,hi⟩:=c35;rw[if_pos ⟨rfl,hi⟩];rw[hi] at q1
  (repeat' first|refine gA ?_|refine gT ?_ ?_<;>intro hv|fail)
  all_goals refine aK ?_ ?_<;>(first|rfl|(clear F_;simp_all [uA,VSym];done))
 rw[if_neg c35];generalize hi:yT (nth0 s 1)=bi at *;have g35:((c==35)&&bi)=false:=by
  cases hh:((c==35)&&bi) with
  |false=>rfl
  |true =>
   simp only[Bool.and_eq_true,beq_iff_eq] at hh;exact absurd hh c35
 generalize (c==35)=b35 at *;cases b35 with
 |false =>
  (refine gA ?_)
  all_goals refine aK ?_ ?_<;>(first|rfl|(clear F_;simp_all [uA,VZ];done))
 |true =>
  have hG:bi=false:=by simpa using g35
  rw[hG] at q1
  (refine gA ?_)
  all_goals refine aK ?_ ?_<;>(first|rfl|(clear F_;simp_all [uA,VZ];done))
def zCg:Code→Option (List Nat×Code×Code)
 |.rangeFunc _ ps a b=>some (ps.toList,a,b)
 |.seq a b=>match zCg a with
  |some r=>some r
  |none=>zCg b
 |.block _ b=>zCg b
 |.scope b=>zCg b
 |.loop b=>zCg b
 |.cond _ a b=>match zCg a with
  |some r=>some r
  |none=>zCg b
 |_=>none
def zIR(fn:Func)(kf:Nat):LoopC :=
 match fn.body with
 |some c=>match zCg c with
  |some (ps,a,b)=>⟨fn.ntmps,kf,ps,a,b⟩
  |none=>default
 |none=>default
def zO0 {fn:Func} {kf m k:Nat} {keep:Nat→Option (List Nat)} {st:St} {Q:Ex→St→Prop} {c a b:Code} {ps:List Nat} (h1:fn.body=some c) (h2:zCg c=some (ps,a,b)) (hw:W CC m k keep a st Q) :
  W CC m k keep (zIR fn kf).asg st Q:=by
 unfold zIR;rw[h1];dsimp only;rw[h2];exact hw
def zNl {fn:Func} {kf m k:Nat} {keep:Nat→Option (List Nat)} {st:St} {Q:Ex→St→Prop} {c a b:Code} {ps:List Nat} (h1:fn.body=some c) (h2:zCg c=some (ps,a,b)) (hw:W CC m k keep b st Q) :
  W CC m k keep (zIR fn kf).body st Q:=by
 unfold zIR;rw[h1];dsimp only;rw[h2];exact hw
def zCx{g:Look}{s:List Nat}{n:Nat}(h:n≤s.length):slice Tryz.prog g 9 (.t (.str s)) (some (n:Int)) none none=some (.t (.str (s.drop n))):=by
 simp [slice,zF0,h]
noncomputable def wW:LoopC:=zIR Tryz.f20 20
def zK0:wW.ps=[16,17]:=by kernel_rfl
def zCO:wW.k=43:=by kernel_rfl
def zE7:wW.kf=20:=by kernel_rfl
def zJy(x:BTok)(l c:Int):Tok:=⟨x.1,x.2.1,x.2.2,l,c⟩
def xaA:=c5 zF zG zE zC (c5 zB zK zR zV (c3 zU zSG zX7))
def zT1 {vp:List Nat→Val×Int} (hj:VPH vp) (s:List Nat) (i:Nat) (hi:i<s.length) (hb:∀b ∈ s,b<256) (hs:s.length≤65536) (line col p1 p2 e0:Int) :
  ∃b h',Om CC vL [.yld 0,.box 5 0,.t (.agg [.int .i64 line,.int .i64 col])]
   [.loop wW [(1,.box 1 0),(2,.box 2 0),(3,.box 3 0),(4,.box 4 0)] 0 none,.box [.t (.str s)],.box [.t (.sl true true [])],.box [.t (.int .i64 p1),.t (.int .i64 p2)],.box [.t (.int .i64 e0)],.box [.t (.int .i64 (i:Int))]]
   = some (.val (.t (.bool b)),h')∧
   (b=true∧(kK vp (s.drop i)).2.2=0∧h'=[.loop wW [(1,.box 1 0),(2,.box 2 0),(3,.box 3 0),(4,.box 4 0)] 0 none,.box [.t (.str s)],.box [.hs 6 0],.box [.t (.int .i64 p1),.t (.int .i64 p2)],.box [.t (.int .i64 e0)],.box [.t (.int .i64 ((kK vp (s.drop i)).2.1:Nat))],
     .arr 7 0 false [(zJy (kK vp (s.drop i)).1 line col).c]] ∨
    b=false∧(kK vp (s.drop i)).2.2≠0∧h'=[.loop wW [(1,.box 1 0),(2,.box 2 0),(3,.box 3 0),(4,.box 4 0)] 2 (some .ret),.box [.t (.str s)],.box [.t (.sl true true [])],.box [.t (.int .i64 line),.t (.int .i64 col)],.box [.t (.int .i64 (kK vp (s.drop i)).2.2)],.box [.t (.int .i64 (i:Int))]]):=by
 have hw:=zQx hj (s.drop i) (by rw[List.length_drop];omega) (by
  have e:nth0 (s.drop i) 0=s[i]:=by unfold nth0;simp [List.getElem?_drop,List.getElem?_eq_getElem hi]
  rw[e];exact hb _ (List.getElem_mem hi)) (by rw[List.length_drop];omega)
 have hH:=fun g=>zCx (g:=g) (s:=s) (n:=i) (by omega)
 generalize kK vp (s.drop i)=N at *;obtain⟨⟨a1,a2,⟨a3,a4,a5⟩⟩,a6,a7⟩:=N;simp only[uA] at hw;refine zO5 (C:=CC) (id:=0) (c:=wW) (by kernel_rfl) rfl (T1:=[(17,.t (.agg [.int .i64 line,.int .i64 col])),(16,.box 5 0),(43,.rnd),(1,.box 1 0),(2,.box 2 0),(3,.box 3 0),(4,.box 4 0)]) (by rw[zK0,zCO];rfl) (by kernel_rfl) ?_;rw[zCO,zE7];refine zO0 (fn:=Tryz.f20) rfl rfl ?_
 (have F_:=xaA)
 (refine gA ?_)
 refine⟨rfl,wW,[(1,.box 1 0),(2,.box 2 0),(3,.box 3 0),(4,.box 4 0)],rfl,?_⟩;rw[zCO,zE7];refine zNl (fn:=Tryz.f20) rfl rfl ?_;simp only[patch,put1]
 (repeat' first|refine gA ?_|refine gT ?_ ?_<;>intro hv|fail)
 ·exact⟨some .ret,_,_,_,_,_,rfl,rfl,by kernel_rfl,.inr ⟨rfl,by simpa using hv,rfl⟩⟩
 exact⟨none,_,_,_,_,_,rfl,rfl,by kernel_rfl,.inl ⟨rfl,by simpa using hv,rfl⟩⟩
def zU7 {vp:List Nat→Val×Int} (hj:VPH vp) (s:List Nat) (i:Nat) (hi:i<s.length) (hb:∀b ∈ s,b<256) (hs:s.length≤65536) (line col p1 p2 e0:Int) (L:List Tok) (hL:L.length<4294967295) :
  ∃b h',Om CC vL [.yld 0,.box 6 0,.t (.agg [.int .i64 line,.int .i64 col])]
   [.loop wW [(1,.box 1 0),(2,.box 2 0),(3,.box 4 0),(4,.box 5 0)] 0 none,.box [.t (.str s)],.box [.hs 3 0],.arr 7 0 false (L.map Tok.c),.box [.t (.int .i64 p1),.t (.int .i64 p2)],.box [.t (.int .i64 e0)],.box [.t (.int .i64 (i:Int))]]
   = some (.val (.t (.bool b)),h')∧
   (b=true∧(kK vp (s.drop i)).2.2=0∧h'=[.loop wW [(1,.box 1 0),(2,.box 2 0),(3,.box 4 0),(4,.box 5 0)] 0 none,.box [.t (.str s)],.box [.hs 3 0],.arr 7 0 false ((L++[zJy (kK vp (s.drop i)).1 line col]).map Tok.c),.box [.t (.int .i64 p1),.t (.int .i64 p2)],.box [.t (.int .i64 e0)],.box [.t (.int .i64 ((kK vp (s.drop i)).2.1:Nat))]] ∨
    b=false∧(kK vp (s.drop i)).2.2≠0∧h'=[.loop wW [(1,.box 1 0),(2,.box 2 0),(3,.box 4 0),(4,.box 5 0)] 2 (some .ret),.box [.t (.str s)],.box [.t (.sl true true [])],.arr 7 0 false (L.map Tok.c),.box [.t (.int .i64 line),.t (.int .i64 col)],.box [.t (.int .i64 (kK vp (s.drop i)).2.2)],.box [.t (.int .i64 (i:Int))]]):=by
 have hw:=zQx hj (s.drop i) (by rw[List.length_drop];omega) (by
  have e:nth0 (s.drop i) 0=s[i]:=by unfold nth0;simp [List.getElem?_drop,List.getElem?_eq_getElem hi]
  rw[e];exact hb _ (List.getElem_mem hi)) (by rw[List.length_drop];omega)
 have hH:=fun g=>zCx (g:=g) (s:=s) (n:=i) (by omega)
 have hP:decide ((L.length:Nat)+1<4294967296)=true:=by(rw[decide_eq_true_eq];omega)
 generalize kK vp (s.drop i)=N at *;obtain⟨⟨a1,a2,⟨a3,a4,a5⟩⟩,a6,a7⟩:=N;simp only[uA] at hw;refine zO5 (C:=CC) (id:=0) (c:=wW) (by kernel_rfl) rfl (T1:=[(17,.t (.agg [.int .i64 line,.int .i64 col])),(16,.box 6 0),(43,.rnd),(1,.box 1 0),(2,.box 2 0),(3,.box 4 0),(4,.box 5 0)]) (by rw[zK0,zCO];rfl) (by kernel_rfl) ?_;rw[zCO,zE7];refine zO0 (fn:=Tryz.f20) rfl rfl ?_
 (have F_:=xaA)
 (refine gA ?_)
 refine⟨rfl,wW,[(1,.box 1 0),(2,.box 2 0),(3,.box 4 0),(4,.box 5 0)],rfl,?_⟩;rw[zCO,zE7];refine zNl (fn:=Tryz.f20) rfl rfl ?_;simp only[patch,put1]
 (repeat' first|refine gA ?_|refine gT ?_ ?_<;>intro hv|fail)
 ·exact⟨some .ret,_,_,_,_,_,rfl,rfl,by kernel_rfl,.inr ⟨rfl,by simpa using hv,rfl⟩⟩
 exact⟨none,_,_,_,_,_,rfl,rfl,by kernel_rfl,.inl ⟨rfl,by simpa using hv,by rw[List.map_append]⟩⟩
def zX9(c:Nat):Om CC 68 [.t (.int .u8 (c:Int))] []=some (.val (.t (.bool (c != 10))),[]):=by
 have h:((c:Int) != 10)=(c != 10):=by unfold bne;rw[← zBf c 10];rfl
 refine zL yHe rfl ?_
 (have F_:=c2 zE yHq;show W CC 0 5 (zA 68) _ ⟨[(0,_)],[]⟩ _)
 (refine gA ?_)
 all_goals refine aK ?_ ?_<;>(first|rfl|(clear F_;simp_all;done))
noncomputable def lexH(s:List Nat)(L:List Tok):Heap :=
 match L with
 |[]=>[.loop wW [(1,.box 1 0),(2,.box 2 0),(3,.box 3 0),(4,.box 4 0)] 0 none,.box [.t (.str s)],.box [.t (.sl true true [])],.box [.t (.int .i64 0),.t (.int .i64 0)],.box [.t (.int .i64 0)],.box [.t (.str s)]]
 |L=>[.loop wW [(1,.box 1 0),(2,.box 2 0),(3,.box 3 0),(4,.box 4 0)] 0 none,.box [.t (.str s)],.box [.hs 6 0],.box [.t (.int .i64 0),.t (.int .i64 0)],.box [.t (.int .i64 0)],.box [.t (.str s)],.arr 7 0 false (L.map Tok.c)]
noncomputable def lexE(s:List Nat)(line col e:Int):Heap :=
 [.loop wW [(1,.box 1 0),(2,.box 2 0),(3,.box 3 0),(4,.box 4 0)] 2 (some .ret),.box [.t (.str s)],.box [.t (.sl true true [])],.box [.t (.int .i64 line),.t (.int .i64 col)],.box [.t (.int .i64 e)],.box [.t (.str s)]]
structure LexI where
 i:Nat
 line:Int
 col:Int
 L:List Tok
noncomputable def lexS(s:List Nat)(a:LexI):St :=
 match a.L with
 |[]=>⟨[(0,.yld 0),(1,.box 5 0),(3,.box 6 0),(4,.t (.int .i64 (a.i:Int)))],lexH s []++[.box [.t (.int .i64 a.line),.t (.int .i64 a.col)]]⟩
 |t::r=>⟨[(0,.yld 0),(1,.box 5 0),(3,.box 7 0),(4,.t (.int .i64 (a.i:Int)))],lexH s (t::r)++[.box [.t (.int .i64 a.line),.t (.int .i64 a.col)]]⟩
def zUf {vp:List Nat→Val×Int} (hj:VPH vp) (s:List Nat) (hb:∀b ∈ s,b<256) (hs:s.length≤65536) :
  ∃o h',Om CC 66 [.yld 0,.box 5 0] (lexH s [])=some (o,h')∧(o=.val (.tup []) ∧
   ((∃L:List Tok,h'=lexH s L∧lexB vp s=some (L.map Tok.b))∨∃line col e,e≠0∧h'=lexE s line col e∧lexB vp s=none)):=by
 refine xU yGq rfl ?_ (by kernel_rfl)
 (have F_:=c5 zG zP zE zC (c5 zK yHQ zFC yDW (c2 yIP zL0));show W CC 6 46 (zA 66) _ ⟨[(0,_),(1,_)],[_,_,_,_,_,_]⟩ _)
 (refine gA ?_)
 refine yE (α:=LexI) (lexS s) (fun a=>s.length - a.i) (fun a=>a.i≤s.length∧a.L.length≤a.i∧lexB vp s=andL (some (a.L.map Tok.b)) (lexB vp (s.drop a.i))) ⟨0,1,1,[]⟩ (by exact aTd) ⟨Nat.zero_le _,Nat.zero_le _,by simp [zXq]⟩ ?_;rintro⟨i,line,col,L⟩ ⟨hi,hL,hB⟩;dsimp only at hi hL hB
 by_cases hn:i<s.length
 ·have hw:=wI64 i (by omega);have hd:decide ((i:Int)<s.length)=true:=by simpa using hn
  obtain⟨c,hc⟩:∃c,s[i]?=some c:=⟨_,List.getElem?_eq_getElem hn⟩;have hx:=qX hc;have ht:s.drop i=c::s.drop (i+1):=by
   rw[List.getElem?_eq_getElem hn] at hc;rw[List.drop_eq_getElem_cons hn,Option.some.inj hc]
  match L,hL,hB with
  |[],hL,hB =>
  have ha:=zT1 hj s i hn hb hs line col 0 0 0
  show W CC _ _ _ _ ⟨[(0,.yld 0),(1,.box 5 0),(3,.box 6 0),(4,.t (.int .i64 (i:Int)))],[.loop wW [(1,.box 1 0),(2,.box 2 0),(3,.box 3 0),(4,.box 4 0)] 0 none,.box [.t (.str s)],.box [.t (.sl true true [])],.box [.t (.int .i64 0),.t (.int .i64 0)],.box [.t (.int .i64 0)],.box [.t (.str s)],.box [.t (.int .i64 line),.t (.int .i64 col)]]⟩ _
  skip
  by_cases c10:c=10
  ·subst c10;have hX:lexB vp s=andL (some (List.map Tok.b [])) (lexB vp (s.drop (i+1))):=by rw[hB,zER hc (.inl rfl)]
   clear hB ha
   (repeat' first|refine gA ?_|refine gT ?_ ?_<;>intro hv<;>try cases hv;done|fail)
   skip
   exact zD ⟨i+1,IntKind.i64.wrap (line+1),IntKind.i64.wrap (0+1),[]⟩ (by dsimp only;omega) ⟨by dsimp only;omega,by dsimp only;omega,hX⟩ (by exact aTd)
  have e10:((c:Int)==10)=false:=by(have:=zBf c 10;simp at this ⊢;omega)
  by_cases c59:c=59
  ·subst c59;have hX:lexB vp s=andL (some (List.map Tok.b [])) (lexB vp (s.drop (i+cntW (fun c=>c != 10) (s.drop i)))):=by rw[hB,zIx hc]
   have hI:Om CC 67 [.t (.str s),.t (.int .i64 (i:Int)),.t (.fn 68)] []=some (.val (.t (.int .i64 (cntW (fun c=>c != 10) (s.drop i):Nat))),[]) :=
    zDX 68 (fun c=>c != 10) zX9 zXS (fun x=>zX _ x (by decide)) s i (by omega) (by omega)
   have hD:1≤cntW (fun c=>c != 10) (s.drop i):=by rw[zKt hc (by decide)];omega
   have hz:=zAB (fun c=>c != 10) (s.drop i);rw[List.length_drop] at hz;generalize cntW (fun c=>c != 10) (s.drop i)=n at *;have hA:IntKind.i64.wrap ((i:Int)+(n:Int))=((i+n:Nat):Int):=by rw[wrap64]<;>omega
   clear hB ha
   (repeat' first|refine gA ?_|refine gT ?_ ?_<;>intro hv<;>try cases hv;done|fail)
   skip
   exact zD ⟨i+n,line,IntKind.i64.wrap (col+n),[]⟩ (by dsimp only;omega) ⟨by dsimp only;omega,by dsimp only;omega,hX⟩ (by exact aTd)
  have e59:((c:Int)==59)=false:=by(have:=zBf c 59;simp at this ⊢;omega)
  by_cases c32:c=32
  ·subst c32;have hX:lexB vp s=andL (some (List.map Tok.b [])) (lexB vp (s.drop (i+1))):=by rw[hB,zER hc (.inr rfl)]
   clear hB ha
   (repeat' first|refine gA ?_|refine gT ?_ ?_<;>intro hv<;>try cases hv;done|fail)
   skip
   exact zD ⟨i+1,line,IntKind.i64.wrap (col+1),[]⟩ (by dsimp only;omega) ⟨by dsimp only;omega,by dsimp only;omega,hX⟩ (by exact aTd)
  have e32:((c:Int) != 32)=true:=by(have:=zBf c 32;simp at this ⊢;omega)
  obtain⟨b,h',hr,hq⟩:=ha;obtain⟨hk,hm⟩:=zOt vp (s.drop i);rcases hq with ⟨rfl,h0,rfl⟩|⟨rfl,h0,rfl⟩
  ·have hf:(yJ vp (s.drop i)).2.2=0:=by rw[← hk];exact h0
   rw[hm hf] at hr h0;have hp:1≤(yJ vp (s.drop i)).2.1∧(yJ vp (s.drop i)).2.1≤s.length - i:=by
    rw[ht] at hf ⊢;exact⟨zN0 vp _ _ hf,by have:=zKE vp _ _ hf;rw[List.length_drop] at this;omega⟩
   have hX:lexB vp s=andL (some (List.map Tok.b ([]++[zJy (yJ vp (s.drop i)).1 line col]))) (lexB vp (s.drop (i+(yJ vp (s.drop i)).2.1))):=by
    rw[hB,zNL hc c10 c32 c59 hf hp.1,zLA,List.map_append];rfl
   clear hB hk hm hf ht;generalize yJ vp (s.drop i)=N at *;obtain⟨x,n,e⟩:=N;dsimp only at hr h0 hp hX;have hA:IntKind.i64.wrap ((i:Int)+(n:Int))=((i+n:Nat):Int):=by rw[wrap64]<;>omega
   generalize zJy x line col=tk at *
   skip
   skip
   (refine gA ?_)
   exact zD ⟨i+n,line,IntKind.i64.wrap (col+n),[tk]⟩ (by dsimp only;omega) ⟨by dsimp only;omega,by(dsimp only[List.length_cons,List.length_nil];omega),hX⟩ (by exact aTd)
  ·have hX:lexB vp s=none:=by
    rw[hB,zPI hc c10 c32 c59 (by rw[← hk];exact h0),zNh]
   clear hB hk hm ht;generalize kK vp (s.drop i)=N at *;obtain⟨x,n,e⟩:=N;dsimp only at hr h0 hX
   (refine gA ?_)
   (refine aJ ?_)
   exact⟨rfl,.inr ⟨line,col,e,h0,rfl,hX⟩⟩
  |t::r,hL,hB =>
  have ha:=zU7 hj s i hn hb hs line col 0 0 0 (t::r) (by omega)
  show W CC _ _ _ _ ⟨[(0,.yld 0),(1,.box 5 0),(3,.box 7 0),(4,.t (.int .i64 (i:Int)))],[.loop wW [(1,.box 1 0),(2,.box 2 0),(3,.box 3 0),(4,.box 4 0)] 0 none,.box [.t (.str s)],.box [.hs 6 0],.box [.t (.int .i64 0),.t (.int .i64 0)],.box [.t (.int .i64 0)],.box [.t (.str s)],.arr 7 0 false ((t::r).map Tok.c),.box [.t (.int .i64 line),.t (.int .i64 col)]]⟩ _
  generalize hC:t::r=TR at *
  by_cases c10:c=10
  ·subst c10;have hX:lexB vp s=andL (some (List.map Tok.b TR)) (lexB vp (s.drop (i+1))):=by rw[hB,zER hc (.inl rfl)]
   clear hB ha
   (repeat' first|refine gA ?_|refine gT ?_ ?_<;>intro hv<;>try cases hv;done|fail)
   subst hC;exact zD ⟨i+1,IntKind.i64.wrap (line+1),IntKind.i64.wrap (0+1),t::r⟩ (by dsimp only;omega) ⟨by dsimp only;omega,by dsimp only;omega,hX⟩ (by exact aTd)
  have e10:((c:Int)==10)=false:=by(have:=zBf c 10;simp at this ⊢;omega)
  by_cases c59:c=59
  ·subst c59;have hX:lexB vp s=andL (some (List.map Tok.b TR)) (lexB vp (s.drop (i+cntW (fun c=>c != 10) (s.drop i)))):=by rw[hB,zIx hc]
   have hI:Om CC 67 [.t (.str s),.t (.int .i64 (i:Int)),.t (.fn 68)] []=some (.val (.t (.int .i64 (cntW (fun c=>c != 10) (s.drop i):Nat))),[]) :=
    zDX 68 (fun c=>c != 10) zX9 zXS (fun x=>zX _ x (by decide)) s i (by omega) (by omega)
   have hD:1≤cntW (fun c=>c != 10) (s.drop i):=by rw[zKt hc (by decide)];omega
   have hz:=zAB (fun c=>c != 10) (s.drop i);rw[List.length_drop] at hz;generalize cntW (fun c=>c != 10) (s.drop i)=n at *;have hA:IntKind.i64.wrap ((i:Int)+(n:Int))=((i+n:Nat):Int):=by rw[wrap64]<;>omega
   clear hB ha
   (repeat' first|refine gA ?_|refine gT ?_ ?_<;>intro hv<;>try cases hv;done|fail)
   subst hC;exact zD ⟨i+n,line,IntKind.i64.wrap (col+n),t::r⟩ (by dsimp only;omega) ⟨by dsimp only;omega,by dsimp only;omega,hX⟩ (by exact aTd)
  have e59:((c:Int)==59)=false:=by(have:=zBf c 59;simp at this ⊢;omega)
  by_cases c32:c=32
  ·subst c32;have hX:lexB vp s=andL (some (List.map Tok.b TR)) (lexB vp (s.drop (i+1))):=by rw[hB,zER hc (.inr rfl)]
   clear hB ha
   (repeat' first|refine gA ?_|refine gT ?_ ?_<;>intro hv<;>try cases hv;done|fail)
   subst hC;exact zD ⟨i+1,line,IntKind.i64.wrap (col+1),t::r⟩ (by dsimp only;omega) ⟨by dsimp only;omega,by dsimp only;omega,hX⟩ (by exact aTd)
  have e32:((c:Int) != 32)=true:=by(have:=zBf c 32;simp at this ⊢;omega)
  obtain⟨b,h',hr,hq⟩:=ha;obtain⟨hk,hm⟩:=zOt vp (s.drop i);rcases hq with ⟨rfl,h0,rfl⟩|⟨rfl,h0,rfl⟩
  ·have hf:(yJ vp (s.drop i)).2.2=0:=by rw[← hk];exact h0
   rw[hm hf] at hr h0;have hp:1≤(yJ vp (s.drop i)).2.1∧(yJ vp (s.drop i)).2.1≤s.length - i:=by
    rw[ht] at hf ⊢;exact⟨zN0 vp _ _ hf,by have:=zKE vp _ _ hf;rw[List.length_drop] at this;omega⟩
   have hX:lexB vp s=andL (some (List.map Tok.b (TR++[zJy (yJ vp (s.drop i)).1 line col]))) (lexB vp (s.drop (i+(yJ vp (s.drop i)).2.1))):=by
    rw[hB,zNL hc c10 c32 c59 hf hp.1,zLA,List.map_append];rfl
   clear hB hk hm hf ht;generalize yJ vp (s.drop i)=N at *;obtain⟨x,n,e⟩:=N;dsimp only at hr h0 hp hX;have hA:IntKind.i64.wrap ((i:Int)+(n:Int))=((i+n:Nat):Int):=by rw[wrap64]<;>omega
   generalize zJy x line col=tk at *;obtain⟨t2,r2,hE⟩:∃t2 r2,TR++[tk]=t2::r2:=by cases TR with|nil=>exact⟨_,_,rfl⟩|cons a b=>exact⟨_,_,rfl⟩
   rw[hE] at hr hX
   (refine gA ?_)
   exact zD ⟨i+n,line,IntKind.i64.wrap (col+n),t2::r2⟩ (by dsimp only;omega) ⟨by dsimp only;omega,by(have:=congrArg List.length hE;simp only[List.length_append,List.length_cons,List.length_nil] at this;dsimp only[List.length_cons];omega),hX⟩ (by exact aTd)
  have hX:lexB vp s=none:=by
   rw[hB,zPI hc c10 c32 c59 (by rw[← hk];exact h0),zNh]
  clear hB hk hm ht;generalize kK vp (s.drop i)=N at *;obtain⟨x,n,e⟩:=N;dsimp only at hr h0 hX
  (refine gA ?_)
  (refine aJ ?_)
  exact⟨rfl,.inr ⟨line,col,e,h0,rfl,hX⟩⟩
 obtain rfl:i=s.length:=by omega
 have hd:decide ((s.length:Int)<s.length)=false:=by simp
 have hX:lexB vp s=some (L.map Tok.b):=by rw[hB,List.drop_length,zXa];simp [andL]
 match L,hL,hX with
 |[],hL,hX =>
  simp only[lexS,lexH,List.cons_append,List.nil_append]
  (refine gA ?_)
  (refine aL ?_)
  exact⟨rfl,.inl ⟨[],rfl,hX⟩⟩
 |t::r,hL,hX =>
  simp only[lexS,lexH,List.cons_append,List.nil_append]
  (refine gA ?_)
  (refine aL ?_)
  exact⟨rfl,.inl ⟨t::r,rfl,hX⟩⟩
def zTC {C:Cfg} {ρ:Oracle} {k:Nat} {keep:Nat→Option (List Nat)} {f:Operand} {ps:List Nat} {asg body:Code} {st st':St} {T' T1:Env} {c c2:LoopC} {v:AV} {p:Patch} {T2:List (Nat×AV)} {b:Nat} {jump:Option Code} {e:Ex} {h2:Heap}
  (h1:zDT k (xP keep body) st.T=some T') (hp:kM k .nov st.T=some T1) (hc:(⟨k,kfOf keep,ps,asg,body⟩:LoopC)=c)
  (h3:zFI C ρ (upd (nth st.h) [(st.h.length,.loop c T' 0 none)]) (st.h.length+1) (zN st.T f) [.yld st.h.length]=some (.val v,p))
  (hh:patch (patch st.h [(st.h.length,.loop c T' 0 none)]) p=h2)
  (h4:nth h2 st.h.length=some (.loop c2 T2 b jump)) (hb:Nat.beq b 1=false)
  (h5:zEC jump ⟨T1,patch h2 [(st.h.length,.loop c2 T2 3 jump)]⟩=some (e,st')):zED C ρ k keep f ps asg body st=some (e,st'):=by
 subst hc;unfold zED;rw[h1,hp];dsimp only;rw[h3];dsimp only;rw[hh,h4];dsimp only;rw[hb];exact h5
def zSF {C:Cfg} {m k:Nat} {keep:Nat→Option (List Nat)} {f:Operand} {ps:Array Tmp} {asg body:Code} {st st':St} {Q:Ex→St→Prop} {T' T1:Env} (c:LoopC) {c2:LoopC} {v:AV} {p:Patch} {T2:List (Nat×AV)} {b:Nat} {jump:Option Code} {e:Ex} {h2:Heap}
  (hq:Q e st') (hc:(⟨k,kfOf keep,ps.toList,asg,body⟩:LoopC)=c:=by kernel_rfl)
  (h1:zDT k (xP keep body) st.T=some T':=by(simp only[zDT,xP,wK,F_,tidy,zBY,canon,reach,wT,refs,vS,catMap,depth,renL,ren,renO,sub,sub1,upto,mem,place,fresh,cond_true,Ab.get,nth,List.map,List.zip_cons_cons,List.zip_nil_left,List.zip_nil_right,List.take,List.append_nil,List.nil_append,List.cons_append,Bool.and_true,uG,decide_true,decide_false,reduceIte,Nat.reduceEqDiff,Nat.beq,Sl.t,Val.c,Slot.c,Tpl.c,Fact.c,Bind.c,Node.c,Test.c,STest.c,Pat.c,intC]<;>exact rfl)) (hp:kM k .nov st.T=some T1:=by(simp only[kM,yK,Ab.get,Nat.beq];exact rfl))
  (h3:zFI C (Om C) (upd (nth st.h) [(st.h.length,.loop c T' 0 none)]) (st.h.length+1) (zN st.T f) [.yld st.h.length]=some (.val v,p):=by(simp only[zFI,beq_true,beq_false,Bool.true_beq,Bool.false_beq,decide_true,decide_false,Int.ofNat_eq_natCast,List.length_map,List.getElem?_map,Option.map_some,wanted,exec1,zBQ,jB,xBox,jM,vH,xLen,kD,uC,wG,jH,cellsOf,zN,opds,kI,get,putT,ret,retO,lit,lit1,patch,put1,load,loadCells,cut,yC,mkAgg,trees,nth,lenOf,indexAddr,storeAt,upd,splice,vZ,uT,zBe,jF,kY,zAH,zAs,zAq,qT,qO,kW,convert,zAu,zAw,zAo,zAn,zBv,zAN,zAC,zAM,zAk,zAl,zAD,qQ,zAJ,zAA,zAy,zAE,zAF,zAt,zAm,zAI,jD,jO,Nat.beq,beq_self_eq_true,Nat.zero_add,Nat.add_zero,List.toList_toArray,List.map_cons,List.map_nil,List.length_cons,List.length_nil,List.take,List.drop,List.all_cons,List.all_nil,List.cons_append,List.nil_append,List.append_nil,Bool.and_true,Bool.true_and,Bool.not_true,Bool.not_false,Bool.and_self,if_true,if_false,reduceIte,Nat.reduceAdd,Nat.reduceLeDiff,Nat.reduceEqDiff,Sl.t,Val.c,Slot.c,Tpl.c,Fact.c,Bind.c,Node.c,Test.c,STest.c,Pat.c,intC,and_self,true_and,and_true,b00,b01,b02,b03,b04,b10,b11,b12,b13,b14,b20,b21,b22,b23,b24,b30,b31,b32,b33,b34,b40,b41,b42,b43,b44,jL,vY,reach,wT,refs,vS,catMap,depth,sub,sub1,renL,ren,renO,mem,place,fresh,xM,plain,zBm,back,zC3,zB4,vE,Way.id,Way.ver,vN,zCq,getN,view,yO,xF,zCy,zX,ne_eq,not_false_eq_true,cond_true,cond_false,zB6,Option.getD_some,elems,yN,wU,xA,wI,wI.go,zAf,qJ,setN,List.replicate,Nat.mul_one,Nat.reduceMul,Nat.reduceLT,append,added,lens,jQ,zCf,zDc,zFx,zEz,UInt8.reduceToNat,zBE,Ab.bound,Int.toNat_natCast,bne_self_eq_false,true_or,Nat.reduceLT,one1,zAO,deferred,kM,yK,zBw,kT,zBB,qV,qA,vT,zCe,zCu,zD4,zD6,uY,Bool.or_true,Bool.or_false,Bool.true_or,Bool.false_or,F_, *];exact rfl))
  (hh:patch (patch st.h [(st.h.length,.loop c T' 0 none)]) p=h2:=by exact rfl)
  (h4:nth h2 st.h.length=some (.loop c2 T2 b jump):=by exact rfl) (hb:Nat.beq b 1=false:=by exact rfl)
  (h5:zEC jump ⟨T1,patch h2 [(st.h.length,.loop c2 T2 3 jump)]⟩=some (e,st'):=by exact rfl):W C m k keep (.rangeFunc f ps asg body) st Q :=
 yA5 (zTC h1 hp hc h3 hh h4 hb h5) hq
def aLd {C:Cfg} {f:FuncId} {fn:Func} {m:Nat} {R:Out→Heap→Prop} {st:St} {v v':AV} {h':Heap} (h3:R (.val v') h') (h1:results C.P fn st=some v:=by(simp only[zBe,results,qC,zAZ,Ab.get,Nat.beq,load,loadCells,nth,cut,mkAgg,trees,Option.map_some,List.map_cons,List.map_nil,List.length_cons,List.length_nil,List.take,List.drop,Nat.zero_add,Nat.add_zero,Nat.reduceAdd,Nat.reduceLeDiff,if_true,F_, *];exact rfl))
  (h2:yW C f m v st.h=some (v',h'):=by(first|exact uW _ _ _ _|exact kN _ _ _ _ _|exact kP _ _ _ _ _ _|(simp only[yW,kR,uX,yO,view,elems,xF,patch,put1,catMap,canon,reach,wT,refs,vS,depth,renL,ren,renO,sub,sub1,upto,mem,place,fresh,cond_true,Ab.get,nth,List.map,List.take,List.length_cons,List.length_nil,List.append_nil,List.nil_append,List.cons_append,Bool.and_true,uG,decide_true,decide_false,reduceIte,Nat.reduceEqDiff,Nat.reduceAdd,Nat.zero_add,Nat.beq,mkAgg,trees,if_true,F_]<;>exact rfl)|kernel_rfl))
  (h0:yK fn.ntmps st.T=some [.nov]:=by kernel_rfl):zLS C f fn m R .ret st :=
 ⟨_,h0,_,_,by rw[leave,leave,h1];dsimp only;rw[h2],h3⟩
def zSt(s:List Nat):Om CC 34 [.t (.str s)] []=some (.val (.fn 66 [] [.box 0 0]),[.box [.t (.str s)]]):=by
 refine zL yCD rfl ?_
 (have F_:=c2 zC yHU;show W CC 0 4 (zA 34) _ ⟨[(0,_)],[]⟩ _)
 (refine gA ?_)
 all_goals refine aK ?_ ?_<;>(first|rfl)
def zOr(vp:List Nat→Val×Int)(s:List Nat)(L:List Tok)(e:Int):Prop:=e=0∧lexB vp s=some (L.map Tok.b)∨e≠0∧L=[]∧lexB vp s=none
def zOD(L:List Tok)(line col e:Int):AV:=.tup [.t (.sl L.isEmpty L.isEmpty (L.map Tok.c)),.t (.agg [.int .i64 line,.int .i64 col]),.t (.int .i64 e)]
def zTj {vp:List Nat→Val×Int} (hj:VPH vp) (s:List Nat) (hb:∀b ∈ s,b<256) (hs:s.length≤65536) :
  ∃o h',Om CC 20 [.t (.str s)] []=some (o,h')∧(h'=[]∧∃L line col e,o=.val (zOD L line col e)∧zOr vp s L e):=by
 have hd:decide ((s.length:Int) > 65536)=false:=by simp;omega
 have hQ:=zSt s;obtain⟨o,h',hy,rfl,hu⟩:=zUf hj s hb hs;simp only[lexH] at hy;have hJ:=@yHu;refine zHl yFN rfl ?_ (by kernel_rfl)
 (have F_:=c5 zF zG zE zC (c5 zB zK zR zV (c3 zU zSG yIb));show W CC 0 43 (zA 20) _ ⟨[(0,_)],[]⟩ _)
 (refine gA ?_)
 rcases hu with ⟨L,rfl,hX⟩|⟨line,col,e,he,rfl,hX⟩
 ·match L,hX with
  |[],hX =>
   simp only[lexH] at hy;refine zSF wW ?_;simp only[patch,put1,List.length_cons,List.length_nil,Nat.reduceAdd,Nat.sub_self,Nat.add_zero,Nat.zero_add]
   (refine gA ?_)
   refine aLd ?_;exact⟨rfl,[],0,0,0,rfl,.inl ⟨rfl,hX⟩⟩
  |t::r,hX =>
   simp only[lexH] at hy;refine zSF wW ?_;simp only[patch,put1,List.length_cons,List.length_nil,Nat.reduceAdd,Nat.sub_self,Nat.add_zero,Nat.zero_add]
   (refine gA ?_)
   refine aLd ?_;exact⟨rfl,t::r,0,0,0,rfl,.inl ⟨rfl,hX⟩⟩
 simp only[lexE] at hy;refine zSF wW ?_;simp only[patch,put1,List.length_cons,List.length_nil,Nat.reduceAdd,Nat.sub_self,Nat.add_zero,Nat.zero_add]
 (refine gA ?_)
 refine aLd ?_;exact⟨rfl,[],line,col,e,rfl,.inr ⟨he,rfl,hX⟩⟩
end Go.Ab
