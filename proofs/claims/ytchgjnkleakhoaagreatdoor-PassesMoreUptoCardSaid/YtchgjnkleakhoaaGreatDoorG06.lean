/- Lemmas. -/
import Derived.Test.YtchgjnkleakhoaaGreatDoorG05
set_option maxRecDepth 1000000
set_option maxHeartbeats 40000000
set_option linter.all false
namespace Go.Ab
open Go.Proofs
attribute [local irreducible] W RW RR
def zQ1 {vp:List Nat→Val×Int} (hvp:VPH vp) (s:List Nat) (h1:1≤s.length) (hb:nth0 s 0<256) (hs:s.length<9223372036854775807) :
  Om CC 94 [.t (.str s)] []=some (.val (uI (jH vp s)),[]):=by
 unfold jH;have q1:=zSA s (by omega);have q2:=zTt hvp s hs;have q3:=yAk hvp s h1 hs;have q4:=yA5 s h1 hb hs;have ho:(if wC (nth0 s 1) then (s.drop 1).take (cntW yY (s.drop 1)) else [])=ownX s:=rfl;rw[ho] at q1;have hol:(ownX s).length<s.length:=by
  unfold ownX;split
  ·rw[List.length_take,List.length_drop];omega
  exact h1
 obtain⟨c,hc⟩:∃c,s[0]?=some c:=⟨_,List.getElem?_eq_getElem (by omega)⟩;have hx:index Tryz.prog 9 (.t (.str s)) 0=some (.t (.int .u8 (c:Int))):=jW hc;have h0:nth0 s 0=c:=by unfold nth0;rw[hc];rfl
 rw[h0];have e1:((c:Int)==34)=(c==34):=zBv c 34;have e2:((c:Int)==63)=(c==63):=zBv c 63;have e3:((c:Int)==35)=(c==35):=zBv c 35;have l1:=zIf c;have l2:=zDW c;have w0:Om CC 150 [.t (.str s),.t (.int .i64 0),.t (.fn 154)] []=some (.val (.t (.int .i64 (cntW yY s:Nat))),[]) :=
  zDX 154 yY zOl zSI (fun x=>zZ _ x (by decide)) s 0 (by simp) (by omega)
 have hcn:=zBl yY s;have htk:∀g,slice Tryz.prog g 9 (.t (.str s)) none (some (cntW yY s:Int)) none=some (.t (.str (s.take (cntW yY s)))):=fun g=>zBF hcn
 have hwo:IntKind.i64.wrap (1+((ownX s).length:Int))=((1+(ownX s).length:Nat):Int):=by rw[wrap64]<;>omega
 refine zK yCR rfl ?_
 (have F_:=c5 zF zG zE zD (c5 zI zB zS zFC (c5 yHQ yFq zN5 zHK (c3 zIA yFM (c2 yC4 yCC))));show W CC 0 83 (zA 94) _ ⟨[(0,_)],[]⟩ _)
 generalize hn1:numX vp s=N1 at *;generalize zLB vp s=N2 at *;generalize sgnX s=N3 at *;generalize ownX s=own at *;generalize cntW yY s=n at *;obtain⟨⟨a1,a2,⟨a3,a4,a5⟩⟩,a6,a7⟩:=N1;obtain⟨⟨b1,b2,⟨b3,b4,b5⟩⟩,b6,b7⟩:=N2;obtain⟨⟨c1,c2,⟨c3,c4,c5⟩⟩,c6,c7⟩:=N3;simp only[uI] at q2 q3 q4;generalize s.take n=tk at *;have d1:decide ((tk.length:Int) > 12)=decide (12<tk.length):=by congr 1;simp;omega
 have d2:decide ((own.length:Int) > 12)=decide (12<own.length):=by congr 1;simp;omega
 have er1:errL tk=if 12<tk.length then 4 else 0:=rfl
 have er2:errL own=if 12<own.length then 4 else 0:=rfl
 cases hl:wC c with
 |true =>
  rw[hl] at l1;rw[if_pos rfl]
  (repeat' first|refine gA ?_|refine gT ?_ ?_<;>intro hv|fail)
  all_goals refine aK ?_ ?_<;>(first|rfl|(clear F_;simp_all [uI,VZ];done))
 |false =>
 rw[hl] at l1;rw[if_neg (by simp)];cases hd:yT c with
 |true =>
  rw[hd] at l2;rw[if_pos rfl]
  (refine gA ?_)
  all_goals refine aK ?_ ?_<;>(first|rfl|(clear F_;simp_all [uI,VZ];done))
 |false =>
 rw[hd] at l2;rw[if_neg (by simp)]
 by_cases c34:c=34
 ·subst c34;rw[if_pos rfl]
  (refine gA ?_)
  all_goals refine aK ?_ ?_<;>(first|rfl|(clear F_;simp_all [uI,VZ];done))
 rw[if_neg c34];have f1:(c==34)=false:=by simpa using c34
 rw[f1] at e1
 by_cases c63:c=63
 ·subst c63;cases hi:wC (nth0 s 1) with
  |true =>
   rw[hi] at q1;rw[if_pos ⟨rfl,rfl⟩]
   (repeat' first|refine gA ?_|refine gT ?_ ?_<;>intro hv|fail)
   all_goals refine aK ?_ ?_<;>(first|rfl|(clear F_;simp_all [uI,VZ];done))
  |false =>
   rw[hi] at q1;rw[if_neg (by simp),if_pos rfl]
   (refine gA ?_)
   all_goals refine aK ?_ ?_<;>(first|rfl|(clear F_;simp_all [uI,VZ];done))
 have f2:(c==63)=false:=by simpa using c63
 rw[f2] at e2;rw[if_neg (fun h=>c63 h.1),if_neg c63]
 by_cases c35:c=35∧wC (nth0 s 1)=true
 ·obtain⟨rfl,hi⟩:=c35;rw[if_pos ⟨rfl,hi⟩];rw[hi] at q1
  (repeat' first|refine gA ?_|refine gT ?_ ?_<;>intro hv|fail)
  all_goals refine aK ?_ ?_<;>(first|rfl|(clear F_;simp_all [uI,VSym];done))
 rw[if_neg c35];generalize hi:wC (nth0 s 1)=bi at *;have g35:((c==35)&&bi)=false:=by
  cases hh:((c==35)&&bi) with
  |false=>rfl
  |true =>
   simp only[Bool.and_eq_true,beq_iff_eq] at hh;exact absurd hh c35
 generalize (c==35)=b35 at *;cases b35 with
 |false =>
  (refine gA ?_)
  all_goals refine aK ?_ ?_<;>(first|rfl|(clear F_;simp_all [uI,VZ];done))
 |true =>
  have hbi:bi=false:=by simpa using g35
  rw[hbi] at q1
  (refine gA ?_)
  all_goals refine aK ?_ ?_<;>(first|rfl|(clear F_;simp_all [uI,VZ];done))
def zCB:Code→Option (List Nat×Code×Code)
 |.rangeFunc _ ps a b=>some (ps.toList,a,b)
 |.seq a b=>match zCB a with
  |some r=>some r
  |none=>zCB b
 |.block _ b=>zCB b
 |.scope b=>zCB b
 |.loop b=>zCB b
 |.cond _ a b=>match zCB a with
  |some r=>some r
  |none=>zCB b
 |_=>none
def zHH(fn:Func)(kf:Nat):LoopC :=
 match fn.body with
 |some c=>match zCB c with
  |some (ps,a,b)=>⟨fn.ntmps,kf,ps,a,b⟩
  |none=>default
 |none=>default
def zOL {fn:Func} {kf m k:Nat} {keep:Nat→Option (List Nat)} {st:St} {Q:Ex→St→Prop} {c a b:Code} {ps:List Nat} (h1:fn.body=some c) (h2:zCB c=some (ps,a,b)) (hw:W CC m k keep a st Q) :
  W CC m k keep (zHH fn kf).asg st Q:=by
 unfold zHH;rw[h1];dsimp only;rw[h2];exact hw
def zMV {fn:Func} {kf m k:Nat} {keep:Nat→Option (List Nat)} {st:St} {Q:Ex→St→Prop} {c a b:Code} {ps:List Nat} (h1:fn.body=some c) (h2:zCB c=some (ps,a,b)) (hw:W CC m k keep b st Q) :
  W CC m k keep (zHH fn kf).body st Q:=by
 unfold zHH;rw[h1];dsimp only;rw[h2];exact hw
def zCZ{g:Look}{s:List Nat}{n:Nat}(h:n≤s.length):slice Tryz.prog g 9 (.t (.str s)) (some (n:Int)) none none=some (.t (.str (s.drop n))):=by
 simp [slice,zEg,h]
noncomputable def wR:LoopC:=zHH Tryz.f63 63
def zLS:wR.ps=[16,17]:=by kernel_rfl
def zC3:wR.k=43:=by kernel_rfl
def zFe:wR.kf=63:=by kernel_rfl
def zJb(x:BTok)(l c:Int):Tok:=⟨x.1,x.2.1,x.2.2,l,c⟩
def xaA:=c5 zF zG zE zD (c5 zI zB zU zX (c3 zS zR1 zXv))
def zSJ {vp:List Nat→Val×Int} (hvp:VPH vp) (s:List Nat) (i:Nat) (hi:i<s.length) (hb:∀b ∈ s,b<256) (hs:s.length≤65536) (line col p1 p2 e0:Int) :
  ∃b h',Om CC vK [.yld 0,.box 5 0,.t (.agg [.int .i64 line,.int .i64 col])]
   [.loop wR [(1,.box 1 0),(2,.box 2 0),(3,.box 3 0),(4,.box 4 0)] 0 none,.box [.t (.str s)],.box [.t (.sl true true [])],.box [.t (.int .i64 p1),.t (.int .i64 p2)],.box [.t (.int .i64 e0)],.box [.t (.int .i64 (i:Int))]]
   = some (.val (.t (.bool b)),h')∧
   (b=true∧(jH vp (s.drop i)).2.2=0∧h'=[.loop wR [(1,.box 1 0),(2,.box 2 0),(3,.box 3 0),(4,.box 4 0)] 0 none,.box [.t (.str s)],.box [.hs 6 0],.box [.t (.int .i64 p1),.t (.int .i64 p2)],.box [.t (.int .i64 e0)],.box [.t (.int .i64 ((jH vp (s.drop i)).2.1:Nat))],
     .arr 7 0 false [(zJb (jH vp (s.drop i)).1 line col).c]] ∨
    b=false∧(jH vp (s.drop i)).2.2≠0∧h'=[.loop wR [(1,.box 1 0),(2,.box 2 0),(3,.box 3 0),(4,.box 4 0)] 2 (some .ret),.box [.t (.str s)],.box [.t (.sl true true [])],.box [.t (.int .i64 line),.t (.int .i64 col)],.box [.t (.int .i64 (jH vp (s.drop i)).2.2)],.box [.t (.int .i64 (i:Int))]]):=by
 have hw:=zQ1 hvp (s.drop i) (by rw[List.length_drop];omega) (by
  have e:nth0 (s.drop i) 0=s[i]:=by unfold nth0;simp [List.getElem?_drop,List.getElem?_eq_getElem hi]
  rw[e];exact hb _ (List.getElem_mem hi)) (by rw[List.length_drop];omega)
 have hsl:=fun g=>zCZ (g:=g) (s:=s) (n:=i) (by omega)
 generalize jH vp (s.drop i)=N at *;obtain⟨⟨a1,a2,⟨a3,a4,a5⟩⟩,a6,a7⟩:=N;simp only[uI] at hw;refine zPc (C:=CC) (id:=0) (c:=wR) (by kernel_rfl) rfl (T1:=[(17,.t (.agg [.int .i64 line,.int .i64 col])),(16,.box 5 0),(43,.rnd),(1,.box 1 0),(2,.box 2 0),(3,.box 3 0),(4,.box 4 0)]) (by rw[zLS,zC3];rfl) (by kernel_rfl) ?_;rw[zC3,zFe];refine zOL (fn:=Tryz.f63) rfl rfl ?_
 (have F_:=xaA)
 (refine gA ?_)
 refine⟨rfl,wR,[(1,.box 1 0),(2,.box 2 0),(3,.box 3 0),(4,.box 4 0)],rfl,?_⟩;rw[zC3,zFe];refine zMV (fn:=Tryz.f63) rfl rfl ?_;simp only[patch,put1]
 (repeat' first|refine gA ?_|refine gT ?_ ?_<;>intro hv|fail)
 ·exact⟨some .ret,_,_,_,_,_,rfl,rfl,by kernel_rfl,.inr ⟨rfl,by simpa using hv,rfl⟩⟩
 exact⟨none,_,_,_,_,_,rfl,rfl,by kernel_rfl,.inl ⟨rfl,by simpa using hv,rfl⟩⟩
def zS6 {vp:List Nat→Val×Int} (hvp:VPH vp) (s:List Nat) (i:Nat) (hi:i<s.length) (hb:∀b ∈ s,b<256) (hs:s.length≤65536) (line col p1 p2 e0:Int) (L:List Tok) (hL:L.length<4294967295) :
  ∃b h',Om CC vK [.yld 0,.box 6 0,.t (.agg [.int .i64 line,.int .i64 col])]
   [.loop wR [(1,.box 1 0),(2,.box 2 0),(3,.box 4 0),(4,.box 5 0)] 0 none,.box [.t (.str s)],.box [.hs 3 0],.arr 7 0 false (L.map Tok.c),.box [.t (.int .i64 p1),.t (.int .i64 p2)],.box [.t (.int .i64 e0)],.box [.t (.int .i64 (i:Int))]]
   = some (.val (.t (.bool b)),h')∧
   (b=true∧(jH vp (s.drop i)).2.2=0∧h'=[.loop wR [(1,.box 1 0),(2,.box 2 0),(3,.box 4 0),(4,.box 5 0)] 0 none,.box [.t (.str s)],.box [.hs 3 0],.arr 7 0 false ((L++[zJb (jH vp (s.drop i)).1 line col]).map Tok.c),.box [.t (.int .i64 p1),.t (.int .i64 p2)],.box [.t (.int .i64 e0)],.box [.t (.int .i64 ((jH vp (s.drop i)).2.1:Nat))]] ∨
    b=false∧(jH vp (s.drop i)).2.2≠0∧h'=[.loop wR [(1,.box 1 0),(2,.box 2 0),(3,.box 4 0),(4,.box 5 0)] 2 (some .ret),.box [.t (.str s)],.box [.t (.sl true true [])],.arr 7 0 false (L.map Tok.c),.box [.t (.int .i64 line),.t (.int .i64 col)],.box [.t (.int .i64 (jH vp (s.drop i)).2.2)],.box [.t (.int .i64 (i:Int))]]):=by
 have hw:=zQ1 hvp (s.drop i) (by rw[List.length_drop];omega) (by
  have e:nth0 (s.drop i) 0=s[i]:=by unfold nth0;simp [List.getElem?_drop,List.getElem?_eq_getElem hi]
  rw[e];exact hb _ (List.getElem_mem hi)) (by rw[List.length_drop];omega)
 have hsl:=fun g=>zCZ (g:=g) (s:=s) (n:=i) (by omega)
 have hsm:decide ((L.length:Nat)+1<4294967296)=true:=by(rw[decide_eq_true_eq];omega)
 generalize jH vp (s.drop i)=N at *;obtain⟨⟨a1,a2,⟨a3,a4,a5⟩⟩,a6,a7⟩:=N;simp only[uI] at hw;refine zPc (C:=CC) (id:=0) (c:=wR) (by kernel_rfl) rfl (T1:=[(17,.t (.agg [.int .i64 line,.int .i64 col])),(16,.box 6 0),(43,.rnd),(1,.box 1 0),(2,.box 2 0),(3,.box 4 0),(4,.box 5 0)]) (by rw[zLS,zC3];rfl) (by kernel_rfl) ?_;rw[zC3,zFe];refine zOL (fn:=Tryz.f63) rfl rfl ?_
 (have F_:=xaA)
 (refine gA ?_)
 refine⟨rfl,wR,[(1,.box 1 0),(2,.box 2 0),(3,.box 4 0),(4,.box 5 0)],rfl,?_⟩;rw[zC3,zFe];refine zMV (fn:=Tryz.f63) rfl rfl ?_;simp only[patch,put1]
 (repeat' first|refine gA ?_|refine gT ?_ ?_<;>intro hv|fail)
 ·exact⟨some .ret,_,_,_,_,_,rfl,rfl,by kernel_rfl,.inr ⟨rfl,by simpa using hv,rfl⟩⟩
 exact⟨none,_,_,_,_,_,rfl,rfl,by kernel_rfl,.inl ⟨rfl,by simpa using hv,by rw[List.map_append]⟩⟩
def zXP(c:Nat):Om CC 151 [.t (.int .u8 (c:Int))] []=some (.val (.t (.bool (c != 10))),[]):=by
 have h:((c:Int) != 10)=(c != 10):=by unfold bne;rw[← zBv c 10];rfl
 refine zK yAP rfl ?_
 (have F_:=c2 zE yDG;show W CC 0 5 (zA 151) _ ⟨[(0,_)],[]⟩ _)
 (refine gA ?_)
 all_goals refine aK ?_ ?_<;>(first|rfl|(clear F_;simp_all;done))
noncomputable def lexH(s:List Nat)(L:List Tok):Heap :=
 match L with
 |[]=>[.loop wR [(1,.box 1 0),(2,.box 2 0),(3,.box 3 0),(4,.box 4 0)] 0 none,.box [.t (.str s)],.box [.t (.sl true true [])],.box [.t (.int .i64 0),.t (.int .i64 0)],.box [.t (.int .i64 0)],.box [.t (.str s)]]
 |L=>[.loop wR [(1,.box 1 0),(2,.box 2 0),(3,.box 3 0),(4,.box 4 0)] 0 none,.box [.t (.str s)],.box [.hs 6 0],.box [.t (.int .i64 0),.t (.int .i64 0)],.box [.t (.int .i64 0)],.box [.t (.str s)],.arr 7 0 false (L.map Tok.c)]
noncomputable def lexE(s:List Nat)(line col e:Int):Heap :=
 [.loop wR [(1,.box 1 0),(2,.box 2 0),(3,.box 3 0),(4,.box 4 0)] 2 (some .ret),.box [.t (.str s)],.box [.t (.sl true true [])],.box [.t (.int .i64 line),.t (.int .i64 col)],.box [.t (.int .i64 e)],.box [.t (.str s)]]
structure LexI where
 i:Nat
 line:Int
 col:Int
 L:List Tok
noncomputable def lexS(s:List Nat)(a:LexI):St :=
 match a.L with
 |[]=>⟨[(0,.yld 0),(1,.box 5 0),(3,.box 6 0),(4,.t (.int .i64 (a.i:Int)))],lexH s []++[.box [.t (.int .i64 a.line),.t (.int .i64 a.col)]]⟩
 |t::r=>⟨[(0,.yld 0),(1,.box 5 0),(3,.box 7 0),(4,.t (.int .i64 (a.i:Int)))],lexH s (t::r)++[.box [.t (.int .i64 a.line),.t (.int .i64 a.col)]]⟩
def zTj {vp:List Nat→Val×Int} (hvp:VPH vp) (s:List Nat) (hb:∀b ∈ s,b<256) (hs:s.length≤65536) :
  ∃o h',Om CC 149 [.yld 0,.box 5 0] (lexH s [])=some (o,h')∧(o=.val (.tup []) ∧
   ((∃L:List Tok,h'=lexH s L∧lexB vp s=some (L.map Tok.b))∨∃line col e,e≠0∧h'=lexE s line col e∧lexB vp s=none)):=by
 refine xU yBf rfl ?_ (by kernel_rfl)
 (have F_:=c5 zG zQ zE zD (c5 zI zFC yFX yBq (c2 yD7 zHK));show W CC 6 46 (zA 149) _ ⟨[(0,_),(1,_)],[_,_,_,_,_,_]⟩ _)
 (refine gA ?_)
 refine zY (α:=LexI) (lexS s) (fun a=>s.length - a.i) (fun a=>a.i≤s.length∧a.L.length≤a.i∧lexB vp s=andL (some (a.L.map Tok.b)) (lexB vp (s.drop a.i))) ⟨0,1,1,[]⟩ (by exact aTd) ⟨Nat.zero_le _,Nat.zero_le _,by simp [zWB]⟩ ?_;rintro⟨i,line,col,L⟩ ⟨hi,hL,hB⟩;dsimp only at hi hL hB
 by_cases hi':i<s.length
 ·have hw:=wI64 i (by omega);have hd:decide ((i:Int)<s.length)=true:=by simpa using hi'
  obtain⟨c,hc⟩:∃c,s[i]?=some c:=⟨_,List.getElem?_eq_getElem hi'⟩;have hx:=jW hc;have hdc:s.drop i=c::s.drop (i+1):=by
   rw[List.getElem?_eq_getElem hi'] at hc;rw[List.drop_eq_getElem_cons hi',Option.some.inj hc]
  match L,hL,hB with
  |[],hL,hB =>
  have hround:=zSJ hvp s i hi' hb hs line col 0 0 0
  show W CC _ _ _ _ ⟨[(0,.yld 0),(1,.box 5 0),(3,.box 6 0),(4,.t (.int .i64 (i:Int)))],[.loop wR [(1,.box 1 0),(2,.box 2 0),(3,.box 3 0),(4,.box 4 0)] 0 none,.box [.t (.str s)],.box [.t (.sl true true [])],.box [.t (.int .i64 0),.t (.int .i64 0)],.box [.t (.int .i64 0)],.box [.t (.str s)],.box [.t (.int .i64 line),.t (.int .i64 col)]]⟩ _
  skip
  by_cases c10:c=10
  ·subst c10;have hX:lexB vp s=andL (some (List.map Tok.b [])) (lexB vp (s.drop (i+1))):=by rw[hB,zE5 hc (.inl rfl)]
   clear hB hround
   (repeat' first|refine gA ?_|refine gT ?_ ?_<;>intro hv<;>try cases hv;done|fail)
   skip
   exact zC ⟨i+1,IntKind.i64.wrap (line+1),IntKind.i64.wrap (0+1),[]⟩ (by dsimp only;omega) ⟨by dsimp only;omega,by dsimp only;omega,hX⟩ (by exact aTd)
  have e10:((c:Int)==10)=false:=by(have:=zBv c 10;simp at this ⊢;omega)
  by_cases c59:c=59
  ·subst c59;have hX:lexB vp s=andL (some (List.map Tok.b [])) (lexB vp (s.drop (i+cntW (fun c=>c != 10) (s.drop i)))):=by rw[hB,zHQ hc]
   have hwh:Om CC 150 [.t (.str s),.t (.int .i64 (i:Int)),.t (.fn 151)] []=some (.val (.t (.int .i64 (cntW (fun c=>c != 10) (s.drop i):Nat))),[]) :=
    zDX 151 (fun c=>c != 10) zXP zUh (fun x=>zZ _ x (by decide)) s i (by omega) (by omega)
   have hn1:1≤cntW (fun c=>c != 10) (s.drop i):=by rw[zKp hc (by decide)];omega
   have hn2:=zBl (fun c=>c != 10) (s.drop i);rw[List.length_drop] at hn2;generalize cntW (fun c=>c != 10) (s.drop i)=n at *;have hw3:IntKind.i64.wrap ((i:Int)+(n:Int))=((i+n:Nat):Int):=by rw[wrap64]<;>omega
   clear hB hround
   (repeat' first|refine gA ?_|refine gT ?_ ?_<;>intro hv<;>try cases hv;done|fail)
   skip
   exact zC ⟨i+n,line,IntKind.i64.wrap (col+n),[]⟩ (by dsimp only;omega) ⟨by dsimp only;omega,by dsimp only;omega,hX⟩ (by exact aTd)
  have e59:((c:Int)==59)=false:=by(have:=zBv c 59;simp at this ⊢;omega)
  by_cases c32:c=32
  ·subst c32;have hX:lexB vp s=andL (some (List.map Tok.b [])) (lexB vp (s.drop (i+1))):=by rw[hB,zE5 hc (.inr rfl)]
   clear hB hround
   (repeat' first|refine gA ?_|refine gT ?_ ?_<;>intro hv<;>try cases hv;done|fail)
   skip
   exact zC ⟨i+1,line,IntKind.i64.wrap (col+1),[]⟩ (by dsimp only;omega) ⟨by dsimp only;omega,by dsimp only;omega,hX⟩ (by exact aTd)
  have e32:((c:Int) != 32)=true:=by(have:=zBv c 32;simp at this ⊢;omega)
  obtain⟨b,h',hr,hq⟩:=hround;obtain⟨hy1,hy2⟩:=zOd vp (s.drop i);rcases hq with ⟨rfl,h0,rfl⟩|⟨rfl,h0,rfl⟩
  ·have hx0:(xP vp (s.drop i)).2.2=0:=by rw[← hy1];exact h0
   rw[hy2 hx0] at hr h0;have hp:1≤(xP vp (s.drop i)).2.1∧(xP vp (s.drop i)).2.1≤s.length - i:=by
    rw[hdc] at hx0 ⊢;exact⟨zNc vp _ _ hx0,by have:=zON vp _ _ hx0;rw[List.length_drop] at this;omega⟩
   have hX:lexB vp s=andL (some (List.map Tok.b ([]++[zJb (xP vp (s.drop i)).1 line col]))) (lexB vp (s.drop (i+(xP vp (s.drop i)).2.1))):=by
    rw[hB,zM5 hc c10 c32 c59 hx0 hp.1,zLP,List.map_append];rfl
   clear hB hy1 hy2 hx0 hdc;generalize xP vp (s.drop i)=N at *;obtain⟨x,n,e⟩:=N;dsimp only at hr h0 hp hX;have hw3:IntKind.i64.wrap ((i:Int)+(n:Int))=((i+n:Nat):Int):=by rw[wrap64]<;>omega
   generalize zJb x line col=tk at *
   skip
   skip
   (refine gA ?_)
   exact zC ⟨i+n,line,IntKind.i64.wrap (col+n),[tk]⟩ (by dsimp only;omega) ⟨by dsimp only;omega,by(dsimp only[List.length_cons,List.length_nil];omega),hX⟩ (by exact aTd)
  ·have hX:lexB vp s=none:=by
    rw[hB,zO4 hc c10 c32 c59 (by rw[← hy1];exact h0),zMy]
   clear hB hy1 hy2 hdc;generalize jH vp (s.drop i)=N at *;obtain⟨x,n,e⟩:=N;dsimp only at hr h0 hX
   (refine gA ?_)
   (refine aJ ?_)
   exact⟨rfl,.inr ⟨line,col,e,h0,rfl,hX⟩⟩
  |t::r,hL,hB =>
  have hround:=zS6 hvp s i hi' hb hs line col 0 0 0 (t::r) (by omega)
  show W CC _ _ _ _ ⟨[(0,.yld 0),(1,.box 5 0),(3,.box 7 0),(4,.t (.int .i64 (i:Int)))],[.loop wR [(1,.box 1 0),(2,.box 2 0),(3,.box 3 0),(4,.box 4 0)] 0 none,.box [.t (.str s)],.box [.hs 6 0],.box [.t (.int .i64 0),.t (.int .i64 0)],.box [.t (.int .i64 0)],.box [.t (.str s)],.arr 7 0 false ((t::r).map Tok.c),.box [.t (.int .i64 line),.t (.int .i64 col)]]⟩ _
  generalize hTR:t::r=TR at *
  by_cases c10:c=10
  ·subst c10;have hX:lexB vp s=andL (some (List.map Tok.b TR)) (lexB vp (s.drop (i+1))):=by rw[hB,zE5 hc (.inl rfl)]
   clear hB hround
   (repeat' first|refine gA ?_|refine gT ?_ ?_<;>intro hv<;>try cases hv;done|fail)
   subst hTR;exact zC ⟨i+1,IntKind.i64.wrap (line+1),IntKind.i64.wrap (0+1),t::r⟩ (by dsimp only;omega) ⟨by dsimp only;omega,by dsimp only;omega,hX⟩ (by exact aTd)
  have e10:((c:Int)==10)=false:=by(have:=zBv c 10;simp at this ⊢;omega)
  by_cases c59:c=59
  ·subst c59;have hX:lexB vp s=andL (some (List.map Tok.b TR)) (lexB vp (s.drop (i+cntW (fun c=>c != 10) (s.drop i)))):=by rw[hB,zHQ hc]
   have hwh:Om CC 150 [.t (.str s),.t (.int .i64 (i:Int)),.t (.fn 151)] []=some (.val (.t (.int .i64 (cntW (fun c=>c != 10) (s.drop i):Nat))),[]) :=
    zDX 151 (fun c=>c != 10) zXP zUh (fun x=>zZ _ x (by decide)) s i (by omega) (by omega)
   have hn1:1≤cntW (fun c=>c != 10) (s.drop i):=by rw[zKp hc (by decide)];omega
   have hn2:=zBl (fun c=>c != 10) (s.drop i);rw[List.length_drop] at hn2;generalize cntW (fun c=>c != 10) (s.drop i)=n at *;have hw3:IntKind.i64.wrap ((i:Int)+(n:Int))=((i+n:Nat):Int):=by rw[wrap64]<;>omega
   clear hB hround
   (repeat' first|refine gA ?_|refine gT ?_ ?_<;>intro hv<;>try cases hv;done|fail)
   subst hTR;exact zC ⟨i+n,line,IntKind.i64.wrap (col+n),t::r⟩ (by dsimp only;omega) ⟨by dsimp only;omega,by dsimp only;omega,hX⟩ (by exact aTd)
  have e59:((c:Int)==59)=false:=by(have:=zBv c 59;simp at this ⊢;omega)
  by_cases c32:c=32
  ·subst c32;have hX:lexB vp s=andL (some (List.map Tok.b TR)) (lexB vp (s.drop (i+1))):=by rw[hB,zE5 hc (.inr rfl)]
   clear hB hround
   (repeat' first|refine gA ?_|refine gT ?_ ?_<;>intro hv<;>try cases hv;done|fail)
   subst hTR;exact zC ⟨i+1,line,IntKind.i64.wrap (col+1),t::r⟩ (by dsimp only;omega) ⟨by dsimp only;omega,by dsimp only;omega,hX⟩ (by exact aTd)
  have e32:((c:Int) != 32)=true:=by(have:=zBv c 32;simp at this ⊢;omega)
  obtain⟨b,h',hr,hq⟩:=hround;obtain⟨hy1,hy2⟩:=zOd vp (s.drop i);rcases hq with ⟨rfl,h0,rfl⟩|⟨rfl,h0,rfl⟩
  ·have hx0:(xP vp (s.drop i)).2.2=0:=by rw[← hy1];exact h0
   rw[hy2 hx0] at hr h0;have hp:1≤(xP vp (s.drop i)).2.1∧(xP vp (s.drop i)).2.1≤s.length - i:=by
    rw[hdc] at hx0 ⊢;exact⟨zNc vp _ _ hx0,by have:=zON vp _ _ hx0;rw[List.length_drop] at this;omega⟩
   have hX:lexB vp s=andL (some (List.map Tok.b (TR++[zJb (xP vp (s.drop i)).1 line col]))) (lexB vp (s.drop (i+(xP vp (s.drop i)).2.1))):=by
    rw[hB,zM5 hc c10 c32 c59 hx0 hp.1,zLP,List.map_append];rfl
   clear hB hy1 hy2 hx0 hdc;generalize xP vp (s.drop i)=N at *;obtain⟨x,n,e⟩:=N;dsimp only at hr h0 hp hX;have hw3:IntKind.i64.wrap ((i:Int)+(n:Int))=((i+n:Nat):Int):=by rw[wrap64]<;>omega
   generalize zJb x line col=tk at *;obtain⟨t2,r2,hT2⟩:∃t2 r2,TR++[tk]=t2::r2:=by cases TR with|nil=>exact⟨_,_,rfl⟩|cons a b=>exact⟨_,_,rfl⟩
   rw[hT2] at hr hX
   (refine gA ?_)
   exact zC ⟨i+n,line,IntKind.i64.wrap (col+n),t2::r2⟩ (by dsimp only;omega) ⟨by dsimp only;omega,by(have:=congrArg List.length hT2;simp only[List.length_append,List.length_cons,List.length_nil] at this;dsimp only[List.length_cons];omega),hX⟩ (by exact aTd)
  have hX:lexB vp s=none:=by
   rw[hB,zO4 hc c10 c32 c59 (by rw[← hy1];exact h0),zMy]
  clear hB hy1 hy2 hdc;generalize jH vp (s.drop i)=N at *;obtain⟨x,n,e⟩:=N;dsimp only at hr h0 hX
  (refine gA ?_)
  (refine aJ ?_)
  exact⟨rfl,.inr ⟨line,col,e,h0,rfl,hX⟩⟩
 obtain rfl:i=s.length:=by omega
 have hd:decide ((s.length:Int)<s.length)=false:=by simp
 have hX:lexB vp s=some (L.map Tok.b):=by rw[hB,List.drop_length,zWq];simp [andL]
 match L,hL,hX with
 |[],hL,hX =>
  simp only[lexS,lexH,List.cons_append,List.nil_append]
  (refine gA ?_)
  (refine aL ?_)
  exact⟨rfl,.inl ⟨[],rfl,hX⟩⟩
 |t::r,hL,hX =>
  simp only[lexS,lexH,List.cons_append,List.nil_append]
  (refine gA ?_)
  (refine aL ?_)
  exact⟨rfl,.inl ⟨t::r,rfl,hX⟩⟩
def zTp {C:Cfg} {ρ:Oracle} {k:Nat} {keep:Nat→Option (List Nat)} {f:Operand} {ps:List Nat} {asg body:Code} {st st':St} {T' T1:Env} {c c2:LoopC} {v:AV} {p:Patch} {T2:List (Nat×AV)} {b:Nat} {jump:Option Code} {e:Ex} {h2:Heap}
  (h1:zD5 k (xN keep body) st.T=some T') (hp:jE k .nov st.T=some T1) (hc:(⟨k,kfOf keep,ps,asg,body⟩:LoopC)=c)
  (h3:zFX C ρ (upd (nth st.h) [(st.h.length,.loop c T' 0 none)]) (st.h.length+1) (zM st.T f) [.yld st.h.length]=some (.val v,p))
  (hh:patch (patch st.h [(st.h.length,.loop c T' 0 none)]) p=h2)
  (h4:nth h2 st.h.length=some (.loop c2 T2 b jump)) (hb:Nat.beq b 1=false)
  (h5:zEA jump ⟨T1,patch h2 [(st.h.length,.loop c2 T2 3 jump)]⟩=some (e,st')):zEt C ρ k keep f ps asg body st=some (e,st'):=by
 subst hc;unfold zEt;rw[h1,hp];dsimp only;rw[h3];dsimp only;rw[hh,h4];dsimp only;rw[hb];exact h5
def zSi {C:Cfg} {m k:Nat} {keep:Nat→Option (List Nat)} {f:Operand} {ps:Array Tmp} {asg body:Code} {st st':St} {Q:Ex→St→Prop} {T' T1:Env} (c:LoopC) {c2:LoopC} {v:AV} {p:Patch} {T2:List (Nat×AV)} {b:Nat} {jump:Option Code} {e:Ex} {h2:Heap}
  (hq:Q e st') (hc:(⟨k,kfOf keep,ps.toList,asg,body⟩:LoopC)=c:=by kernel_rfl)
  (h1:zD5 k (xN keep body) st.T=some T':=by(simp only[zD5,xN,wF,F_,tidy,zCk,canon,reach,wQ,refs,vY,catMap,depth,renL,ren,renO,sub,sub1,upto,mem,place,fresh,cond_true,Ab.get,nth,List.map,List.zip_cons_cons,List.zip_nil_left,List.zip_nil_right,List.take,List.append_nil,List.nil_append,List.cons_append,Bool.and_true,vI,decide_true,decide_false,reduceIte,Nat.reduceEqDiff,Nat.beq,Sl.t,Val.c,Slot.c,Tpl.c,Fact.c,Bind.c,Node.c,Test.c,STest.c,Pat.c,intC]<;>exact rfl)) (hp:jE k .nov st.T=some T1:=by(simp only[jE,yI,Ab.get,Nat.beq];exact rfl))
  (h3:zFX C (Om C) (upd (nth st.h) [(st.h.length,.loop c T' 0 none)]) (st.h.length+1) (zM st.T f) [.yld st.h.length]=some (.val v,p):=by(simp only[zFX,beq_true,beq_false,Bool.true_beq,Bool.false_beq,decide_true,decide_false,Int.ofNat_eq_natCast,List.length_map,List.getElem?_map,Option.map_some,wanted,exec1,zAq,uY,xBox,qS,wB,xLen,uQ,wK,xM,uZ,cellsOf,zM,opds,qA,get,putT,ret,retO,lit,lit1,patch,put1,load,loadCells,cut,zW,mkAgg,trees,nth,lenOf,indexAddr,storeAt,upd,splice,wO,wU,zAm,uM,uL,kA,kB,kE,kM,kN,zAf,convert,zAQ,zA0,zAP,zAI,zB4,zA1,zAU,zAS,zAK,zAN,zAX,kO,qU,qZ,qY,qW,kC,kD,qV,qX,uN,qL,Nat.beq,beq_self_eq_true,Nat.zero_add,Nat.add_zero,List.toList_toArray,List.map_cons,List.map_nil,List.length_cons,List.length_nil,List.take,List.drop,List.all_cons,List.all_nil,List.cons_append,List.nil_append,List.append_nil,Bool.and_true,Bool.true_and,Bool.not_true,Bool.not_false,Bool.and_self,if_true,if_false,reduceIte,Nat.reduceAdd,Nat.reduceLeDiff,Nat.reduceEqDiff,Sl.t,Val.c,Slot.c,Tpl.c,Fact.c,Bind.c,Node.c,Test.c,STest.c,Pat.c,intC,and_self,true_and,and_true,b00,b01,b02,b03,b04,b10,b11,b12,b13,b14,b20,b21,b22,b23,b24,b30,b31,b32,b33,b34,b40,b41,b42,b43,b44,zAk,uC,reach,wQ,refs,vY,catMap,depth,sub,sub1,renL,ren,renO,mem,place,fresh,xL,plain,zB2,back,zDq,zB7,vD,Way.id,Way.ver,vO,zCJ,getN,view,yO,xB,zCY,zZ,ne_eq,not_false_eq_true,cond_true,cond_false,zCe,Option.getD_some,elems,yE,wI,yV,xV,xV.go,zAp,qG,setN,List.replicate,Nat.mul_one,Nat.reduceMul,Nat.reduceLT,append,added,lens,kP,zCA,zDD,zFt,zEI,UInt8.reduceToNat,zBR,Ab.bound,Int.toNat_natCast,bne_self_eq_false,true_or,Nat.reduceLT,one1,zAG,deferred,jE,yI,zB5,jT,zBM,kQ,qM,vW,zCu,zCK,zEe,zEn,qK,Bool.or_true,Bool.or_false,Bool.true_or,Bool.false_or,F_, *];exact rfl))
  (hh:patch (patch st.h [(st.h.length,.loop c T' 0 none)]) p=h2:=by exact rfl)
  (h4:nth h2 st.h.length=some (.loop c2 T2 b jump):=by exact rfl) (hb:Nat.beq b 1=false:=by exact rfl)
  (h5:zEA jump ⟨T1,patch h2 [(st.h.length,.loop c2 T2 3 jump)]⟩=some (e,st'):=by exact rfl):W C m k keep (.rangeFunc f ps asg body) st Q :=
 zYN (zTp h1 hp hc h3 hh h4 hb h5) hq
def aLd {C:Cfg} {f:FuncId} {fn:Func} {m:Nat} {R:Out→Heap→Prop} {st:St} {v v':AV} {h':Heap} (h3:R (.val v') h') (h1:results C.P fn st=some v:=by(simp only[zAm,results,qQ,zA5,Ab.get,Nat.beq,load,loadCells,nth,cut,mkAgg,trees,Option.map_some,List.map_cons,List.map_nil,List.length_cons,List.length_nil,List.take,List.drop,Nat.zero_add,Nat.add_zero,Nat.reduceAdd,Nat.reduceLeDiff,if_true,F_, *];exact rfl))
  (h2:yU C f m v st.h=some (v',h'):=by(first|exact qD _ _ _ _|exact jS _ _ _ _ _|exact jQ _ _ _ _ _ _|(simp only[yU,jV,qO,yO,view,elems,xB,patch,put1,catMap,canon,reach,wQ,refs,vY,depth,renL,ren,renO,sub,sub1,upto,mem,place,fresh,cond_true,Ab.get,nth,List.map,List.take,List.length_cons,List.length_nil,List.append_nil,List.nil_append,List.cons_append,Bool.and_true,vI,decide_true,decide_false,reduceIte,Nat.reduceEqDiff,Nat.reduceAdd,Nat.zero_add,Nat.beq,mkAgg,trees,if_true,F_]<;>exact rfl)|kernel_rfl))
  (h0:yI fn.ntmps st.T=some [.nov]:=by kernel_rfl):zLe C f fn m R .ret st :=
 ⟨_,h0,_,_,by rw[leave,leave,h1];dsimp only;rw[h2],h3⟩
def zRy(s:List Nat):Om CC 93 [.t (.str s)] []=some (.val (.fn 149 [] [.box 0 0]),[.box [.t (.str s)]]):=by
 refine zK yBC rfl ?_
 (have F_:=c2 zD yGY;show W CC 0 4 (zA 93) _ ⟨[(0,_)],[]⟩ _)
 (refine gA ?_)
 all_goals refine aK ?_ ?_<;>(first|rfl)
def zNR(vp:List Nat→Val×Int)(s:List Nat)(L:List Tok)(e:Int):Prop:=e=0∧lexB vp s=some (L.map Tok.b)∨e≠0∧L=[]∧lexB vp s=none
def zOU(L:List Tok)(line col e:Int):AV:=.tup [.t (.sl L.isEmpty L.isEmpty (L.map Tok.c)),.t (.agg [.int .i64 line,.int .i64 col]),.t (.int .i64 e)]
def zSC {vp:List Nat→Val×Int} (hvp:VPH vp) (s:List Nat) (hb:∀b ∈ s,b<256) (hs:s.length≤65536) :
  ∃o h',Om CC 63 [.t (.str s)] []=some (o,h')∧(h'=[]∧∃L line col e,o=.val (zOU L line col e)∧zNR vp s L e):=by
 have hd:decide ((s.length:Int) > 65536)=false:=by simp;omega
 have h34:=zRy s;obtain⟨o,h',hst,rfl,hcase⟩:=zTj hvp s hb hs;simp only[lexH] at hst;have hb66:=@yCw;refine zHk yFo rfl ?_ (by kernel_rfl)
 (have F_:=c5 zF zG zE zD (c5 zI zB zU zX (c3 zS zR1 yGJ));show W CC 0 43 (zA 63) _ ⟨[(0,_)],[]⟩ _)
 (refine gA ?_)
 rcases hcase with ⟨L,rfl,hX⟩|⟨line,col,e,he,rfl,hX⟩
 ·match L,hX with
  |[],hX =>
   simp only[lexH] at hst;refine zSi wR ?_;simp only[patch,put1,List.length_cons,List.length_nil,Nat.reduceAdd,Nat.sub_self,Nat.add_zero,Nat.zero_add]
   (refine gA ?_)
   refine aLd ?_;exact⟨rfl,[],0,0,0,rfl,.inl ⟨rfl,hX⟩⟩
  |t::r,hX =>
   simp only[lexH] at hst;refine zSi wR ?_;simp only[patch,put1,List.length_cons,List.length_nil,Nat.reduceAdd,Nat.sub_self,Nat.add_zero,Nat.zero_add]
   (refine gA ?_)
   refine aLd ?_;exact⟨rfl,t::r,0,0,0,rfl,.inl ⟨rfl,hX⟩⟩
 simp only[lexE] at hst;refine zSi wR ?_;simp only[patch,put1,List.length_cons,List.length_nil,Nat.reduceAdd,Nat.sub_self,Nat.add_zero,Nat.zero_add]
 (refine gA ?_)
 refine aLd ?_;exact⟨rfl,[],line,col,e,rfl,.inr ⟨he,rfl,hX⟩⟩
end Go.Ab
