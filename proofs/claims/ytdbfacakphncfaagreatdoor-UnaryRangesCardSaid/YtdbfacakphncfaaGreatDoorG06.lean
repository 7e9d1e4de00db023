/- Lemmas. -/
import Derived.Test.YtdbfacakphncfaaGreatDoorG05
set_option maxRecDepth 1000000
set_option maxHeartbeats 40000000
set_option linter.all false
namespace Go.Ab
open Go.Proofs
attribute [local irreducible] W RW RR
def zQu {vp:List Nat→Val×Int} (hvp:VPH vp) (s:List Nat) (h1:1≤s.length) (hb:nth0 s 0<256) (hs:s.length<9223372036854775807) :
  Om CC 35 [.t (.str s)] []=some (.val (uE (jJ vp s)),[]):=by
 unfold jJ;have q1:=zUu s (by omega);have q2:=zT4 hvp s hs;have q3:=zYk hvp s h1 hs;have q4:=zYS s h1 hb hs;have ho:(if xO (nth0 s 1) then (s.drop 1).take (cntW yW (s.drop 1)) else [])=ownX s:=rfl;rw[ho] at q1;have hol:(ownX s).length<s.length:=by
  unfold ownX;split
  ·rw[List.length_take,List.length_drop];omega
  exact h1
 obtain⟨c,hc⟩:∃c,s[0]?=some c:=⟨_,List.getElem?_eq_getElem (by omega)⟩;have hx:index Tryz.prog 9 (.t (.str s)) 0=some (.t (.int .u8 (c:Int))):=xL hc;have h0:nth0 s 0=c:=by unfold nth0;rw[hc];rfl
 rw[h0];have e1:((c:Int)==34)=(c==34):=zC0 c 34;have e2:((c:Int)==63)=(c==63):=zC0 c 63;have e3:((c:Int)==35)=(c==35):=zC0 c 35;have l1:=zIh c;have l2:=zDv c;have w0:Om CC 67 [.t (.str s),.t (.int .i64 0),.t (.fn 71)] []=some (.val (.t (.int .i64 (cntW yW s:Nat))),[]) :=
  zDz 71 yW zOP zXj (fun x=>yA _ x (by decide)) s 0 (by simp) (by omega)
 have hcn:=jA yW s;have htk:∀g,slice Tryz.prog g 9 (.t (.str s)) none (some (cntW yW s:Int)) none=some (.t (.str (s.take (cntW yW s)))):=fun g=>zBN hcn
 have hwo:IntKind.i64.wrap (1+((ownX s).length:Int))=((1+(ownX s).length:Nat):Int):=by rw[wrap64]<;>omega
 refine zV yDs rfl ?_
 (have F_:=c5 zF zG zE zD (c5 zC zL zR zE0 (c5 yHu yIw zRj zKr (c3 zKE yH4 (c2 yHx yIS))));show W CC 0 83 (zA 35) _ ⟨[(0,_)],[]⟩ _)
 generalize hn1:numX vp s=N1 at *;generalize zKv vp s=N2 at *;generalize sgnX s=N3 at *;generalize ownX s=own at *;generalize cntW yW s=n at *;obtain⟨⟨a1,a2,⟨a3,a4,a5⟩⟩,a6,a7⟩:=N1;obtain⟨⟨b1,b2,⟨b3,b4,b5⟩⟩,b6,b7⟩:=N2;obtain⟨⟨c1,c2,⟨c3,c4,c5⟩⟩,c6,c7⟩:=N3;simp only[uE] at q2 q3 q4;generalize s.take n=tk at *;have d1:decide ((tk.length:Int) > 12)=decide (12<tk.length):=by congr 1;simp;omega
 have d2:decide ((own.length:Int) > 12)=decide (12<own.length):=by congr 1;simp;omega
 have er1:errL tk=if 12<tk.length then 4 else 0:=rfl
 have er2:errL own=if 12<own.length then 4 else 0:=rfl
 cases hl:xO c with
 |true =>
  rw[hl] at l1;rw[if_pos rfl]
  (repeat' first|refine gA ?_|refine gT ?_ ?_<;>intro hv<;>try cases hv;done|fail)
  all_goals refine aO ?_ ?_<;>(first|rfl|(clear F_;simp_all [uE,VZ];done))
 |false =>
 rw[hl] at l1;rw[if_neg (by simp)];cases hd:yL c with
 |true =>
  rw[hd] at l2;rw[if_pos rfl]
  (repeat' first|refine gA ?_|refine gT ?_ ?_<;>intro hv<;>try cases hv;done|fail)
  all_goals refine aO ?_ ?_<;>(first|rfl|(clear F_;simp_all [uE,VZ];done))
 |false =>
 rw[hd] at l2;rw[if_neg (by simp)]
 by_cases c34:c=34
 ·subst c34;rw[if_pos rfl]
  (repeat' first|refine gA ?_|refine gT ?_ ?_<;>intro hv<;>try cases hv;done|fail)
  all_goals refine aO ?_ ?_<;>(first|rfl|(clear F_;simp_all [uE,VZ];done))
 rw[if_neg c34];have f1:(c==34)=false:=by simpa using c34
 rw[f1] at e1
 by_cases c63:c=63
 ·subst c63;cases hi:xO (nth0 s 1) with
  |true =>
   rw[hi] at q1;rw[if_pos ⟨rfl,rfl⟩]
   (repeat' first|refine gA ?_|refine gT ?_ ?_<;>intro hv<;>try cases hv;done|fail)
   all_goals refine aO ?_ ?_<;>(first|rfl|(clear F_;simp_all [uE,VZ];done))
  |false =>
   rw[hi] at q1;rw[if_neg (by simp),if_pos rfl]
   (repeat' first|refine gA ?_|refine gT ?_ ?_<;>intro hv<;>try cases hv;done|fail)
   all_goals refine aO ?_ ?_<;>(first|rfl|(clear F_;simp_all [uE,VZ];done))
 have f2:(c==63)=false:=by simpa using c63
 rw[f2] at e2;rw[if_neg (fun h=>c63 h.1),if_neg c63]
 by_cases c35:c=35∧xO (nth0 s 1)=true
 ·obtain⟨rfl,hi⟩:=c35;rw[if_pos ⟨rfl,hi⟩];rw[hi] at q1
  (repeat' first|refine gA ?_|refine gT ?_ ?_<;>intro hv<;>try cases hv;done|fail)
  all_goals refine aO ?_ ?_<;>(first|rfl|(clear F_;simp_all [uE,VSym];done))
 rw[if_neg c35];generalize hi:xO (nth0 s 1)=bi at *;have g35:((c==35)&&bi)=false:=by
  cases hh:((c==35)&&bi) with
  |false=>rfl
  |true =>
   simp only[Bool.and_eq_true,beq_iff_eq] at hh;exact absurd hh c35
 generalize (c==35)=b35 at *;cases b35 with
 |false =>
  (repeat' first|refine gA ?_|refine gT ?_ ?_<;>intro hv<;>try cases hv;done|fail)
  all_goals refine aO ?_ ?_<;>(first|rfl|(clear F_;simp_all [uE,VZ];done))
 |true =>
  have hbi:bi=false:=by simpa using g35
  rw[hbi] at q1
  (repeat' first|refine gA ?_|refine gT ?_ ?_<;>intro hv<;>try cases hv;done|fail)
  all_goals refine aO ?_ ?_<;>(first|rfl|(clear F_;simp_all [uE,VZ];done))
def zCa:Code→Option (List Nat×Code×Code)
 |.rangeFunc _ ps a b=>some (ps.toList,a,b)
 |.seq a b=>match zCa a with
  |some r=>some r
  |none=>zCa b
 |.block _ b=>zCa b
 |.scope b=>zCa b
 |.loop b=>zCa b
 |.cond _ a b=>match zCa a with
  |some r=>some r
  |none=>zCa b
 |_=>none
def zIq(fn:Func)(kf:Nat):LoopC :=
 match fn.body with
 |some c=>match zCa c with
  |some (ps,a,b)=>⟨fn.ntmps,kf,ps,a,b⟩
  |none=>default
 |none=>default
def zNF {fn:Func} {kf m k:Nat} {keep:Nat→Option (List Nat)} {st:St} {Q:Ex→St→Prop} {c a b:Code} {ps:List Nat} (h1:fn.body=some c) (h2:zCa c=some (ps,a,b)) (hw:W CC m k keep a st Q) :
  W CC m k keep (zIq fn kf).asg st Q:=by
 unfold zIq;rw[h1];dsimp only;rw[h2];exact hw
def zMg {fn:Func} {kf m k:Nat} {keep:Nat→Option (List Nat)} {st:St} {Q:Ex→St→Prop} {c a b:Code} {ps:List Nat} (h1:fn.body=some c) (h2:zCa c=some (ps,a,b)) (hw:W CC m k keep b st Q) :
  W CC m k keep (zIq fn kf).body st Q:=by
 unfold zIq;rw[h1];dsimp only;rw[h2];exact hw
def zCn{g:Look}{s:List Nat}{n:Nat}(h:n≤s.length):slice Tryz.prog g 9 (.t (.str s)) (some (n:Int)) none none=some (.t (.str (s.drop n))):=by
 simp [slice,zFs,h]
noncomputable def wT:LoopC:=zIq Tryz.f20 20
def zKV:wT.ps=[16,17]:=by kernel_rfl
def zCI:wT.k=43:=by kernel_rfl
def zEx:wT.kf=20:=by kernel_rfl
def zII(x:BTok)(l c:Int):Tok:=⟨x.1,x.2.1,x.2.2,l,c⟩
def xaA:=c5 zF zG zE zD (c5 zC zL zQ zU (c3 zR zRQ zWT))
def zUg {vp:List Nat→Val×Int} (hvp:VPH vp) (s:List Nat) (i:Nat) (hi:i<s.length) (hb:∀b ∈ s,b<256) (hs:s.length≤65536) (line col p1 p2 e0:Int) :
  ∃b h',Om CC vL [.yld 0,.box 5 0,.t (.agg [.int .i64 line,.int .i64 col])]
   [.loop wT [(1,.box 1 0),(2,.box 2 0),(3,.box 3 0),(4,.box 4 0)] 0 none,.box [.t (.str s)],.box [.t (.sl true true [])],.box [.t (.int .i64 p1),.t (.int .i64 p2)],.box [.t (.int .i64 e0)],.box [.t (.int .i64 (i:Int))]]
   = some (.val (.t (.bool b)),h')∧
   (b=true∧(jJ vp (s.drop i)).2.2=0∧h'=[.loop wT [(1,.box 1 0),(2,.box 2 0),(3,.box 3 0),(4,.box 4 0)] 0 none,.box [.t (.str s)],.box [.hs 6 0],.box [.t (.int .i64 p1),.t (.int .i64 p2)],.box [.t (.int .i64 e0)],.box [.t (.int .i64 ((jJ vp (s.drop i)).2.1:Nat))],
     .arr 7 0 false [(zII (jJ vp (s.drop i)).1 line col).c]] ∨
    b=false∧(jJ vp (s.drop i)).2.2≠0∧h'=[.loop wT [(1,.box 1 0),(2,.box 2 0),(3,.box 3 0),(4,.box 4 0)] 2 (some .ret),.box [.t (.str s)],.box [.t (.sl true true [])],.box [.t (.int .i64 line),.t (.int .i64 col)],.box [.t (.int .i64 (jJ vp (s.drop i)).2.2)],.box [.t (.int .i64 (i:Int))]]):=by
 have hw:=zQu hvp (s.drop i) (by rw[List.length_drop];omega) (by
  have e:nth0 (s.drop i) 0=s[i]:=by unfold nth0;simp [List.getElem?_drop,List.getElem?_eq_getElem hi]
  rw[e];exact hb _ (List.getElem_mem hi)) (by rw[List.length_drop];omega)
 have hsl:=fun g=>zCn (g:=g) (s:=s) (n:=i) (by omega)
 generalize jJ vp (s.drop i)=N at *;obtain⟨⟨a1,a2,⟨a3,a4,a5⟩⟩,a6,a7⟩:=N;simp only[uE] at hw;refine zOg (C:=CC) (id:=0) (c:=wT) (by kernel_rfl) rfl (T1:=[(17,.t (.agg [.int .i64 line,.int .i64 col])),(16,.box 5 0),(43,.rnd),(1,.box 1 0),(2,.box 2 0),(3,.box 3 0),(4,.box 4 0)]) (by rw[zKV,zCI];rfl) (by kernel_rfl) ?_;rw[zCI,zEx];refine zNF (fn:=Tryz.f20) rfl rfl ?_
 (have F_:=xaA)
 (repeat' first|refine gA ?_|refine gT ?_ ?_<;>intro hv<;>try cases hv;done|fail)
 refine⟨rfl,wT,[(1,.box 1 0),(2,.box 2 0),(3,.box 3 0),(4,.box 4 0)],rfl,?_⟩;rw[zCI,zEx];refine zMg (fn:=Tryz.f20) rfl rfl ?_;simp only[patch,put1]
 (repeat' first|refine gA ?_|refine gT ?_ ?_<;>intro hv<;>try cases hv;done|fail)
 ·exact⟨some .ret,_,_,_,_,_,rfl,rfl,by kernel_rfl,.inr ⟨rfl,by simpa using hv,rfl⟩⟩
 exact⟨none,_,_,_,_,_,rfl,rfl,by kernel_rfl,.inl ⟨rfl,by simpa using hv,rfl⟩⟩
def zUh {vp:List Nat→Val×Int} (hvp:VPH vp) (s:List Nat) (i:Nat) (hi:i<s.length) (hb:∀b ∈ s,b<256) (hs:s.length≤65536) (line col p1 p2 e0:Int) (L:List Tok) (hL:L.length<4294967295) :
  ∃b h',Om CC vL [.yld 0,.box 6 0,.t (.agg [.int .i64 line,.int .i64 col])]
   [.loop wT [(1,.box 1 0),(2,.box 2 0),(3,.box 4 0),(4,.box 5 0)] 0 none,.box [.t (.str s)],.box [.hs 3 0],.arr 7 0 false (L.map Tok.c),.box [.t (.int .i64 p1),.t (.int .i64 p2)],.box [.t (.int .i64 e0)],.box [.t (.int .i64 (i:Int))]]
   = some (.val (.t (.bool b)),h')∧
   (b=true∧(jJ vp (s.drop i)).2.2=0∧h'=[.loop wT [(1,.box 1 0),(2,.box 2 0),(3,.box 4 0),(4,.box 5 0)] 0 none,.box [.t (.str s)],.box [.hs 3 0],.arr 7 0 false ((L++[zII (jJ vp (s.drop i)).1 line col]).map Tok.c),.box [.t (.int .i64 p1),.t (.int .i64 p2)],.box [.t (.int .i64 e0)],.box [.t (.int .i64 ((jJ vp (s.drop i)).2.1:Nat))]] ∨
    b=false∧(jJ vp (s.drop i)).2.2≠0∧h'=[.loop wT [(1,.box 1 0),(2,.box 2 0),(3,.box 4 0),(4,.box 5 0)] 2 (some .ret),.box [.t (.str s)],.box [.t (.sl true true [])],.arr 7 0 false (L.map Tok.c),.box [.t (.int .i64 line),.t (.int .i64 col)],.box [.t (.int .i64 (jJ vp (s.drop i)).2.2)],.box [.t (.int .i64 (i:Int))]]):=by
 have hw:=zQu hvp (s.drop i) (by rw[List.length_drop];omega) (by
  have e:nth0 (s.drop i) 0=s[i]:=by unfold nth0;simp [List.getElem?_drop,List.getElem?_eq_getElem hi]
  rw[e];exact hb _ (List.getElem_mem hi)) (by rw[List.length_drop];omega)
 have hsl:=fun g=>zCn (g:=g) (s:=s) (n:=i) (by omega)
 have hsm:decide ((L.length:Nat)+1<4294967296)=true:=by(rw[decide_eq_true_eq];omega)
 generalize jJ vp (s.drop i)=N at *;obtain⟨⟨a1,a2,⟨a3,a4,a5⟩⟩,a6,a7⟩:=N;simp only[uE] at hw;refine zOg (C:=CC) (id:=0) (c:=wT) (by kernel_rfl) rfl (T1:=[(17,.t (.agg [.int .i64 line,.int .i64 col])),(16,.box 6 0),(43,.rnd),(1,.box 1 0),(2,.box 2 0),(3,.box 4 0),(4,.box 5 0)]) (by rw[zKV,zCI];rfl) (by kernel_rfl) ?_;rw[zCI,zEx];refine zNF (fn:=Tryz.f20) rfl rfl ?_
 (have F_:=xaA)
 (repeat' first|refine gA ?_|refine gT ?_ ?_<;>intro hv<;>try cases hv;done|fail)
 refine⟨rfl,wT,[(1,.box 1 0),(2,.box 2 0),(3,.box 4 0),(4,.box 5 0)],rfl,?_⟩;rw[zCI,zEx];refine zMg (fn:=Tryz.f20) rfl rfl ?_;simp only[patch,put1]
 (repeat' first|refine gA ?_|refine gT ?_ ?_<;>intro hv<;>try cases hv;done|fail)
 ·exact⟨some .ret,_,_,_,_,_,rfl,rfl,by kernel_rfl,.inr ⟨rfl,by simpa using hv,rfl⟩⟩
 exact⟨none,_,_,_,_,_,rfl,rfl,by kernel_rfl,.inl ⟨rfl,by simpa using hv,by rw[List.map_append]⟩⟩
def zXg(c:Nat):Om CC 68 [.t (.int .u8 (c:Int))] []=some (.val (.t (.bool (c != 10))),[]):=by
 have h:((c:Int) != 10)=(c != 10):=by unfold bne;rw[← zC0 c 10];rfl
 refine zV yE0 rfl ?_
 (have F_:=c2 zE yHF;show W CC 0 5 (zA 68) _ ⟨[(0,_)],[]⟩ _)
 (repeat' first|refine gA ?_|refine gT ?_ ?_<;>intro hv<;>try cases hv;done|fail)
 all_goals refine aO ?_ ?_<;>(first|rfl|(clear F_;simp_all;done))
noncomputable def lexH(s:List Nat)(L:List Tok):Heap :=
 match L with
 |[]=>[.loop wT [(1,.box 1 0),(2,.box 2 0),(3,.box 3 0),(4,.box 4 0)] 0 none,.box [.t (.str s)],.box [.t (.sl true true [])],.box [.t (.int .i64 0),.t (.int .i64 0)],.box [.t (.int .i64 0)],.box [.t (.str s)]]
 |L=>[.loop wT [(1,.box 1 0),(2,.box 2 0),(3,.box 3 0),(4,.box 4 0)] 0 none,.box [.t (.str s)],.box [.hs 6 0],.box [.t (.int .i64 0),.t (.int .i64 0)],.box [.t (.int .i64 0)],.box [.t (.str s)],.arr 7 0 false (L.map Tok.c)]
noncomputable def lexE(s:List Nat)(line col e:Int):Heap :=
 [.loop wT [(1,.box 1 0),(2,.box 2 0),(3,.box 3 0),(4,.box 4 0)] 2 (some .ret),.box [.t (.str s)],.box [.t (.sl true true [])],.box [.t (.int .i64 line),.t (.int .i64 col)],.box [.t (.int .i64 e)],.box [.t (.str s)]]
structure LexI where
 i:Nat
 line:Int
 col:Int
 L:List Tok
noncomputable def lexS(s:List Nat)(a:LexI):St :=
 match a.L with
 |[]=>⟨[(0,.yld 0),(1,.box 5 0),(3,.box 6 0),(4,.t (.int .i64 (a.i:Int)))],lexH s []++[.box [.t (.int .i64 a.line),.t (.int .i64 a.col)]]⟩
 |t::r=>⟨[(0,.yld 0),(1,.box 5 0),(3,.box 7 0),(4,.t (.int .i64 (a.i:Int)))],lexH s (t::r)++[.box [.t (.int .i64 a.line),.t (.int .i64 a.col)]]⟩
def zT5 {vp:List Nat→Val×Int} (hvp:VPH vp) (s:List Nat) (hb:∀b ∈ s,b<256) (hs:s.length≤65536) :
  ∃o h',Om CC 66 [.yld 0,.box 5 0] (lexH s [])=some (o,h')∧(o=.val (.tup []) ∧
   ((∃L:List Tok,h'=lexH s L∧lexB vp s=some (L.map Tok.b))∨∃line col e,e≠0∧h'=lexE s line col e∧lexB vp s=none)):=by
 refine xK yGD rfl ?_ (by kernel_rfl)
 (have F_:=c5 zG zN zE zD (c5 zL yJn zE0 yCE (c2 yHf zKr));show W CC 6 46 (zA 66) _ ⟨[(0,_),(1,_)],[_,_,_,_,_,_]⟩ _)
 (repeat' first|refine gA ?_|refine gT ?_ ?_<;>intro hv<;>try cases hv;done|fail)
 refine zW (α:=LexI) (lexS s) (fun a=>s.length - a.i) (fun a=>a.i≤s.length∧a.L.length≤a.i∧lexB vp s=andL (some (a.L.map Tok.b)) (lexB vp (s.drop a.i))) ⟨0,1,1,[]⟩ (by exact aTd) ⟨Nat.zero_le _,Nat.zero_le _,by simp [zVz]⟩ ?_;rintro⟨i,line,col,L⟩ ⟨hi,hL,hB⟩;dsimp only at hi hL hB
 by_cases hi':i<s.length
 ·have hw:=wI64 i (by omega);have hd:decide ((i:Int)<s.length)=true:=by simpa using hi'
  obtain⟨c,hc⟩:∃c,s[i]?=some c:=⟨_,List.getElem?_eq_getElem hi'⟩;have hx:=xL hc;have hdc:s.drop i=c::s.drop (i+1):=by
   rw[List.getElem?_eq_getElem hi'] at hc;rw[List.drop_eq_getElem_cons hi',Option.some.inj hc]
  match L,hL,hB with
  |[],hL,hB =>
  have hround:=zUg hvp s i hi' hb hs line col 0 0 0
  show W CC _ _ _ _ ⟨[(0,.yld 0),(1,.box 5 0),(3,.box 6 0),(4,.t (.int .i64 (i:Int)))],[.loop wT [(1,.box 1 0),(2,.box 2 0),(3,.box 3 0),(4,.box 4 0)] 0 none,.box [.t (.str s)],.box [.t (.sl true true [])],.box [.t (.int .i64 0),.t (.int .i64 0)],.box [.t (.int .i64 0)],.box [.t (.str s)],.box [.t (.int .i64 line),.t (.int .i64 col)]]⟩ _
  skip
  by_cases c10:c=10
  ·subst c10;have hX:lexB vp s=andL (some (List.map Tok.b [])) (lexB vp (s.drop (i+1))):=by rw[hB,zEu hc (.inl rfl)]
   clear hB hround
   (repeat' first|refine gA ?_|refine gT ?_ ?_<;>intro hv<;>try cases hv;done|fail)
   skip
   exact zB ⟨i+1,IntKind.i64.wrap (line+1),IntKind.i64.wrap (0+1),[]⟩ (by dsimp only;omega) ⟨by dsimp only;omega,by dsimp only;omega,hX⟩ (by exact aTd)
  have e10:((c:Int)==10)=false:=by(have:=zC0 c 10;simp at this ⊢;omega)
  by_cases c59:c=59
  ·subst c59;have hX:lexB vp s=andL (some (List.map Tok.b [])) (lexB vp (s.drop (i+cntW (fun c=>c != 10) (s.drop i)))):=by rw[hB,zHO hc]
   have hwh:Om CC 67 [.t (.str s),.t (.int .i64 (i:Int)),.t (.fn 68)] []=some (.val (.t (.int .i64 (cntW (fun c=>c != 10) (s.drop i):Nat))),[]) :=
    zDz 68 (fun c=>c != 10) zXg zW7 (fun x=>yA _ x (by decide)) s i (by omega) (by omega)
   have hn1:1≤cntW (fun c=>c != 10) (s.drop i):=by rw[zJX hc (by decide)];omega
   have hn2:=jA (fun c=>c != 10) (s.drop i);rw[List.length_drop] at hn2;generalize cntW (fun c=>c != 10) (s.drop i)=n at *;have hw3:IntKind.i64.wrap ((i:Int)+(n:Int))=((i+n:Nat):Int):=by rw[wrap64]<;>omega
   clear hB hround
   (repeat' first|refine gA ?_|refine gT ?_ ?_<;>intro hv<;>try cases hv;done|fail)
   skip
   exact zB ⟨i+n,line,IntKind.i64.wrap (col+n),[]⟩ (by dsimp only;omega) ⟨by dsimp only;omega,by dsimp only;omega,hX⟩ (by exact aTd)
  have e59:((c:Int)==59)=false:=by(have:=zC0 c 59;simp at this ⊢;omega)
  by_cases c32:c=32
  ·subst c32;have hX:lexB vp s=andL (some (List.map Tok.b [])) (lexB vp (s.drop (i+1))):=by rw[hB,zEu hc (.inr rfl)]
   clear hB hround
   (repeat' first|refine gA ?_|refine gT ?_ ?_<;>intro hv<;>try cases hv;done|fail)
   skip
   exact zB ⟨i+1,line,IntKind.i64.wrap (col+1),[]⟩ (by dsimp only;omega) ⟨by dsimp only;omega,by dsimp only;omega,hX⟩ (by exact aTd)
  have e32:((c:Int) != 32)=true:=by(have:=zC0 c 32;simp at this ⊢;omega)
  obtain⟨b,h',hr,hq⟩:=hround;obtain⟨hy1,hy2⟩:=zN5 vp (s.drop i);rcases hq with ⟨rfl,h0,rfl⟩|⟨rfl,h0,rfl⟩
  ·have hx0:(xA vp (s.drop i)).2.2=0:=by rw[← hy1];exact h0
   rw[hy2 hx0] at hr h0;have hp:1≤(xA vp (s.drop i)).2.1∧(xA vp (s.drop i)).2.1≤s.length - i:=by
    rw[hdc] at hx0 ⊢;exact⟨zMj vp _ _ hx0,by have:=zJw vp _ _ hx0;rw[List.length_drop] at this;omega⟩
   have hX:lexB vp s=andL (some (List.map Tok.b ([]++[zII (xA vp (s.drop i)).1 line col]))) (lexB vp (s.drop (i+(xA vp (s.drop i)).2.1))):=by
    rw[hB,zMi hc c10 c32 c59 hx0 hp.1,zKY,List.map_append];rfl
   clear hB hy1 hy2 hx0 hdc;generalize xA vp (s.drop i)=N at *;obtain⟨x,n,e⟩:=N;dsimp only at hr h0 hp hX;have hw3:IntKind.i64.wrap ((i:Int)+(n:Int))=((i+n:Nat):Int):=by rw[wrap64]<;>omega
   generalize zII x line col=tk at *
   skip
   skip
   (repeat' first|refine gA ?_|refine gT ?_ ?_<;>intro hv<;>try cases hv;done|fail)
   exact zB ⟨i+n,line,IntKind.i64.wrap (col+n),[tk]⟩ (by dsimp only;omega) ⟨by dsimp only;omega,by(dsimp only[List.length_cons,List.length_nil];omega),hX⟩ (by exact aTd)
  ·have hX:lexB vp s=none:=by
    rw[hB,zOl hc c10 c32 c59 (by rw[← hy1];exact h0),zMu]
   clear hB hy1 hy2 hdc;generalize jJ vp (s.drop i)=N at *;obtain⟨x,n,e⟩:=N;dsimp only at hr h0 hX
   (repeat' first|refine gA ?_|refine gT ?_ ?_<;>intro hv<;>try cases hv;done|fail)
   (refine aM ?_)
   exact⟨rfl,.inr ⟨line,col,e,h0,rfl,hX⟩⟩
  |t::r,hL,hB =>
  have hround:=zUh hvp s i hi' hb hs line col 0 0 0 (t::r) (by omega)
  show W CC _ _ _ _ ⟨[(0,.yld 0),(1,.box 5 0),(3,.box 7 0),(4,.t (.int .i64 (i:Int)))],[.loop wT [(1,.box 1 0),(2,.box 2 0),(3,.box 3 0),(4,.box 4 0)] 0 none,.box [.t (.str s)],.box [.hs 6 0],.box [.t (.int .i64 0),.t (.int .i64 0)],.box [.t (.int .i64 0)],.box [.t (.str s)],.arr 7 0 false ((t::r).map Tok.c),.box [.t (.int .i64 line),.t (.int .i64 col)]]⟩ _
  generalize hTR:t::r=TR at *
  by_cases c10:c=10
  ·subst c10;have hX:lexB vp s=andL (some (List.map Tok.b TR)) (lexB vp (s.drop (i+1))):=by rw[hB,zEu hc (.inl rfl)]
   clear hB hround
   (repeat' first|refine gA ?_|refine gT ?_ ?_<;>intro hv<;>try cases hv;done|fail)
   subst hTR;exact zB ⟨i+1,IntKind.i64.wrap (line+1),IntKind.i64.wrap (0+1),t::r⟩ (by dsimp only;omega) ⟨by dsimp only;omega,by dsimp only;omega,hX⟩ (by exact aTd)
  have e10:((c:Int)==10)=false:=by(have:=zC0 c 10;simp at this ⊢;omega)
  by_cases c59:c=59
  ·subst c59;have hX:lexB vp s=andL (some (List.map Tok.b TR)) (lexB vp (s.drop (i+cntW (fun c=>c != 10) (s.drop i)))):=by rw[hB,zHO hc]
   have hwh:Om CC 67 [.t (.str s),.t (.int .i64 (i:Int)),.t (.fn 68)] []=some (.val (.t (.int .i64 (cntW (fun c=>c != 10) (s.drop i):Nat))),[]) :=
    zDz 68 (fun c=>c != 10) zXg zW7 (fun x=>yA _ x (by decide)) s i (by omega) (by omega)
   have hn1:1≤cntW (fun c=>c != 10) (s.drop i):=by rw[zJX hc (by decide)];omega
   have hn2:=jA (fun c=>c != 10) (s.drop i);rw[List.length_drop] at hn2;generalize cntW (fun c=>c != 10) (s.drop i)=n at *;have hw3:IntKind.i64.wrap ((i:Int)+(n:Int))=((i+n:Nat):Int):=by rw[wrap64]<;>omega
   clear hB hround
   (repeat' first|refine gA ?_|refine gT ?_ ?_<;>intro hv<;>try cases hv;done|fail)
   subst hTR;exact zB ⟨i+n,line,IntKind.i64.wrap (col+n),t::r⟩ (by dsimp only;omega) ⟨by dsimp only;omega,by dsimp only;omega,hX⟩ (by exact aTd)
  have e59:((c:Int)==59)=false:=by(have:=zC0 c 59;simp at this ⊢;omega)
  by_cases c32:c=32
  ·subst c32;have hX:lexB vp s=andL (some (List.map Tok.b TR)) (lexB vp (s.drop (i+1))):=by rw[hB,zEu hc (.inr rfl)]
   clear hB hround
   (repeat' first|refine gA ?_|refine gT ?_ ?_<;>intro hv<;>try cases hv;done|fail)
   subst hTR;exact zB ⟨i+1,line,IntKind.i64.wrap (col+1),t::r⟩ (by dsimp only;omega) ⟨by dsimp only;omega,by dsimp only;omega,hX⟩ (by exact aTd)
  have e32:((c:Int) != 32)=true:=by(have:=zC0 c 32;simp at this ⊢;omega)
  obtain⟨b,h',hr,hq⟩:=hround;obtain⟨hy1,hy2⟩:=zN5 vp (s.drop i);rcases hq with ⟨rfl,h0,rfl⟩|⟨rfl,h0,rfl⟩
  ·have hx0:(xA vp (s.drop i)).2.2=0:=by rw[← hy1];exact h0
   rw[hy2 hx0] at hr h0;have hp:1≤(xA vp (s.drop i)).2.1∧(xA vp (s.drop i)).2.1≤s.length - i:=by
    rw[hdc] at hx0 ⊢;exact⟨zMj vp _ _ hx0,by have:=zJw vp _ _ hx0;rw[List.length_drop] at this;omega⟩
   have hX:lexB vp s=andL (some (List.map Tok.b (TR++[zII (xA vp (s.drop i)).1 line col]))) (lexB vp (s.drop (i+(xA vp (s.drop i)).2.1))):=by
    rw[hB,zMi hc c10 c32 c59 hx0 hp.1,zKY,List.map_append];rfl
   clear hB hy1 hy2 hx0 hdc;generalize xA vp (s.drop i)=N at *;obtain⟨x,n,e⟩:=N;dsimp only at hr h0 hp hX;have hw3:IntKind.i64.wrap ((i:Int)+(n:Int))=((i+n:Nat):Int):=by rw[wrap64]<;>omega
   generalize zII x line col=tk at *;obtain⟨t2,r2,hT2⟩:∃t2 r2,TR++[tk]=t2::r2:=by cases TR with|nil=>exact⟨_,_,rfl⟩|cons a b=>exact⟨_,_,rfl⟩
   rw[hT2] at hr hX
   (repeat' first|refine gA ?_|refine gT ?_ ?_<;>intro hv<;>try cases hv;done|fail)
   exact zB ⟨i+n,line,IntKind.i64.wrap (col+n),t2::r2⟩ (by dsimp only;omega) ⟨by dsimp only;omega,by(have:=congrArg List.length hT2;simp only[List.length_append,List.length_cons,List.length_nil] at this;dsimp only[List.length_cons];omega),hX⟩ (by exact aTd)
  have hX:lexB vp s=none:=by
   rw[hB,zOl hc c10 c32 c59 (by rw[← hy1];exact h0),zMu]
  clear hB hy1 hy2 hdc;generalize jJ vp (s.drop i)=N at *;obtain⟨x,n,e⟩:=N;dsimp only at hr h0 hX
  (repeat' first|refine gA ?_|refine gT ?_ ?_<;>intro hv<;>try cases hv;done|fail)
  (refine aM ?_)
  exact⟨rfl,.inr ⟨line,col,e,h0,rfl,hX⟩⟩
 obtain rfl:i=s.length:=by omega
 have hd:decide ((s.length:Int)<s.length)=false:=by simp
 have hX:lexB vp s=some (L.map Tok.b):=by rw[hB,List.drop_length,zJB];simp [andL]
 match L,hL,hX with
 |[],hL,hX =>
  simp only[lexS,lexH,List.cons_append,List.nil_append]
  (repeat' first|refine gA ?_|refine gT ?_ ?_<;>intro hv<;>try cases hv;done|fail)
  (refine aP ?_)
  exact⟨rfl,.inl ⟨[],rfl,hX⟩⟩
 |t::r,hL,hX =>
  simp only[lexS,lexH,List.cons_append,List.nil_append]
  (repeat' first|refine gA ?_|refine gT ?_ ?_<;>intro hv<;>try cases hv;done|fail)
  (refine aP ?_)
  exact⟨rfl,.inl ⟨t::r,rfl,hX⟩⟩
def zTB {C:Cfg} {ρ:Oracle} {k:Nat} {keep:Nat→Option (List Nat)} {f:Operand} {ps:List Nat} {asg body:Code} {st st':St} {T' T1:Env} {c c2:LoopC} {v:AV} {p:Patch} {T2:List (Nat×AV)} {b:Nat} {jump:Option Code} {e:Ex} {h2:Heap}
  (h1:zDo k (xJ keep body) st.T=some T') (hp:qA k .nov st.T=some T1) (hc:(⟨k,kfOf keep,ps,asg,body⟩:LoopC)=c)
  (h3:zFw C ρ (upd (nth st.h) [(st.h.length,.loop c T' 0 none)]) (st.h.length+1) (zJ st.T f) [.yld st.h.length]=some (.val v,p))
  (hh:patch (patch st.h [(st.h.length,.loop c T' 0 none)]) p=h2)
  (h4:nth h2 st.h.length=some (.loop c2 T2 b jump)) (hb:Nat.beq b 1=false)
  (h5:zD1 jump ⟨T1,patch h2 [(st.h.length,.loop c2 T2 3 jump)]⟩=some (e,st')):zD2 C ρ k keep f ps asg body st=some (e,st'):=by
 subst hc;unfold zD2;rw[h1,hp];dsimp only;rw[h3];dsimp only;rw[hh,h4];dsimp only;rw[hb];exact h5
def zQM {C:Cfg} {m k:Nat} {keep:Nat→Option (List Nat)} {f:Operand} {ps:Array Tmp} {asg body:Code} {st st':St} {Q:Ex→St→Prop} {T' T1:Env} (c:LoopC) {c2:LoopC} {v:AV} {p:Patch} {T2:List (Nat×AV)} {b:Nat} {jump:Option Code} {e:Ex} {h2:Heap}
  (hq:Q e st') (hc:(⟨k,kfOf keep,ps.toList,asg,body⟩:LoopC)=c:=by kernel_rfl)
  (h1:zDo k (xJ keep body) st.T=some T':=by(simp only[zDo,xJ,wJ,F_,tidy,zB0,canon,reach,wG,refs,wS,catMap,depth,renL,ren,renO,sub,sub1,upto,mem,place,fresh,cond_true,Ab.get,nth,List.map,List.zip_cons_cons,List.zip_nil_left,List.zip_nil_right,List.take,List.append_nil,List.nil_append,List.cons_append,Bool.and_true,uO,decide_true,decide_false,reduceIte,Nat.reduceEqDiff,Nat.beq,Sl.t,Val.c,Slot.c,Tpl.c,Fact.c,Bind.c,Node.c,Test.c,STest.c,Pat.c,intC]<;>exact rfl)) (hp:qA k .nov st.T=some T1:=by(simp only[qA,yG,Ab.get,Nat.beq];exact rfl))
  (h3:zFw C (Om C) (upd (nth st.h) [(st.h.length,.loop c T' 0 none)]) (st.h.length+1) (zJ st.T f) [.yld st.h.length]=some (.val v,p):=by(simp only[zFw,beq_true,beq_false,Bool.true_beq,Bool.false_beq,decide_true,decide_false,Int.ofNat_eq_natCast,List.length_map,List.getElem?_map,Option.map_some,wanted,exec1,zAr,qE,xBox,qO,wB,xLen,uT,wN,xH,qD,cellsOf,zJ,opds,qG,get,putT,ret,retO,lit,lit1,patch,put1,load,loadCells,cut,yB,mkAgg,trees,nth,lenOf,indexAddr,storeAt,upd,splice,wP,wU,zAm,uI,uG,kK,kJ,kO,vG,vI,uH,convert,kC,qU,kF,qV,zAc,qT,qW,qS,kE,kB,kA,vY,kI,kM,qZ,qX,kN,qY,kL,kG,uL,qI,Nat.beq,beq_self_eq_true,Nat.zero_add,Nat.add_zero,List.toList_toArray,List.map_cons,List.map_nil,List.length_cons,List.length_nil,List.take,List.drop,List.all_cons,List.all_nil,List.cons_append,List.nil_append,List.append_nil,Bool.and_true,Bool.true_and,Bool.not_true,Bool.not_false,Bool.and_self,if_true,if_false,reduceIte,Nat.reduceAdd,Nat.reduceLeDiff,Nat.reduceEqDiff,Sl.t,Val.c,Slot.c,Tpl.c,Fact.c,Bind.c,Node.c,Test.c,STest.c,Pat.c,intC,and_self,true_and,and_true,b00,b01,b02,b03,b04,b10,b11,b12,b13,b14,b20,b21,b22,b23,b24,b30,b31,b32,b33,b34,b40,b41,b42,b43,b44,qN,wQ,reach,wG,refs,wS,catMap,depth,sub,sub1,renL,ren,renO,mem,place,fresh,xB,plain,jX,back,zAV,zAv,wF,Way.id,Way.ver,wM,zAG,getN,view,yK,yV,zAe,yA,ne_eq,not_false_eq_true,cond_true,cond_false,jV,Option.getD_some,elems,yF,xN,yQ,xC,xC.go,zAj,vO,setN,List.replicate,Nat.mul_one,Nat.reduceMul,Nat.reduceLT,append,added,lens,uV,zAA,zAT,zCt,zBx,UInt8.reduceToNat,zAg,Ab.bound,Int.toNat_natCast,bne_self_eq_false,true_or,Nat.reduceLT,one1,kD,deferred,qA,yG,jW,uS,jZ,vW,vB,wH,zAt,zAD,zBi,zBh,vC,Bool.or_true,Bool.or_false,Bool.true_or,Bool.false_or,F_, *];exact rfl))
  (hh:patch (patch st.h [(st.h.length,.loop c T' 0 none)]) p=h2:=by exact rfl)
  (h4:nth h2 st.h.length=some (.loop c2 T2 b jump):=by exact rfl) (hb:Nat.beq b 1=false:=by exact rfl)
  (h5:zD1 jump ⟨T1,patch h2 [(st.h.length,.loop c2 T2 3 jump)]⟩=some (e,st'):=by exact rfl):W C m k keep (.rangeFunc f ps asg body) st Q :=
 zYA (zTB h1 hp hc h3 hh h4 hb h5) hq
def aLd {C:Cfg} {f:FuncId} {fn:Func} {m:Nat} {R:Out→Heap→Prop} {st:St} {v v':AV} {h':Heap} (h3:R (.val v') h') (h1:results C.P fn st=some v:=by(simp only[zAm,results,qK,zAZ,Ab.get,Nat.beq,load,loadCells,nth,cut,mkAgg,trees,Option.map_some,List.map_cons,List.map_nil,List.length_cons,List.length_nil,List.take,List.drop,Nat.zero_add,Nat.add_zero,Nat.reduceAdd,Nat.reduceLeDiff,if_true,F_, *];exact rfl))
  (h2:yT C f m v st.h=some (v',h'):=by(first|exact uY _ _ _ _|exact jP _ _ _ _ _|exact jN _ _ _ _ _ _|(simp only[yT,jU,qJ,yK,view,elems,yV,patch,put1,catMap,canon,reach,wG,refs,wS,depth,renL,ren,renO,sub,sub1,upto,mem,place,fresh,cond_true,Ab.get,nth,List.map,List.take,List.length_cons,List.length_nil,List.append_nil,List.nil_append,List.cons_append,Bool.and_true,uO,decide_true,decide_false,reduceIte,Nat.reduceEqDiff,Nat.reduceAdd,Nat.zero_add,Nat.beq,mkAgg,trees,if_true,F_]<;>exact rfl)|kernel_rfl))
  (h0:yG fn.ntmps st.T=some [.nov]:=by kernel_rfl):zKs C f fn m R .ret st :=
 ⟨_,h0,_,_,by rw[leave,leave,h1];dsimp only;rw[h2],h3⟩
def zQB(s:List Nat):Om CC 34 [.t (.str s)] []=some (.val (.fn 66 [] [.box 0 0]),[.box [.t (.str s)]]):=by
 refine zV yBK rfl ?_
 (have F_:=c2 zD yI7;show W CC 0 4 (zA 34) _ ⟨[(0,_)],[]⟩ _)
 (repeat' first|refine gA ?_|refine gT ?_ ?_<;>intro hv<;>try cases hv;done|fail)
 all_goals refine aO ?_ ?_<;>(first|rfl)
def zWC(vp:List Nat→Val×Int)(s:List Nat)(L:List Tok)(e:Int):Prop:=e=0∧lexB vp s=some (L.map Tok.b)∨e≠0∧L=[]∧lexB vp s=none
def zHS(L:List Tok)(line col e:Int):AV:=.tup [.t (.sl L.isEmpty L.isEmpty (L.map Tok.c)),.t (.agg [.int .i64 line,.int .i64 col]),.t (.int .i64 e)]
def yG5 {vp:List Nat→Val×Int} (hvp:VPH vp) (s:List Nat) (hb:∀b ∈ s,b<256) (hs:s.length≤65536) :
  ∃o h',Om CC 20 [.t (.str s)] []=some (o,h')∧(h'=[]∧∃L line col e,o=.val (zHS L line col e)∧zWC vp s L e):=by
 have hd:decide ((s.length:Int) > 65536)=false:=by simp;omega
 have h34:=zQB s;obtain⟨o,h',hst,rfl,hcase⟩:=zT5 hvp s hb hs;simp only[lexH] at hst;have hb66:=@yHk;refine zHg yAW rfl ?_ (by kernel_rfl)
 (have F_:=c5 zF zG zE zD (c5 zC zL zQ zU (c3 zR zRQ yH7));show W CC 0 43 (zA 20) _ ⟨[(0,_)],[]⟩ _)
 (repeat' first|refine gA ?_|refine gT ?_ ?_<;>intro hv<;>try cases hv;done|fail)
 rcases hcase with ⟨L,rfl,hX⟩|⟨line,col,e,he,rfl,hX⟩
 ·match L,hX with
  |[],hX =>
   simp only[lexH] at hst;refine zQM wT ?_;simp only[patch,put1,List.length_cons,List.length_nil,Nat.reduceAdd,Nat.sub_self,Nat.add_zero,Nat.zero_add]
   (repeat' first|refine gA ?_|refine gT ?_ ?_<;>intro hv<;>try cases hv;done|fail)
   refine aLd ?_;exact⟨rfl,[],0,0,0,rfl,.inl ⟨rfl,hX⟩⟩
  |t::r,hX =>
   simp only[lexH] at hst;refine zQM wT ?_;simp only[patch,put1,List.length_cons,List.length_nil,Nat.reduceAdd,Nat.sub_self,Nat.add_zero,Nat.zero_add]
   (repeat' first|refine gA ?_|refine gT ?_ ?_<;>intro hv<;>try cases hv;done|fail)
   refine aLd ?_;exact⟨rfl,t::r,0,0,0,rfl,.inl ⟨rfl,hX⟩⟩
 simp only[lexE] at hst;refine zQM wT ?_;simp only[patch,put1,List.length_cons,List.length_nil,Nat.reduceAdd,Nat.sub_self,Nat.add_zero,Nat.zero_add]
 (repeat' first|refine gA ?_|refine gT ?_ ?_<;>intro hv<;>try cases hv;done|fail)
 refine aLd ?_;exact⟨rfl,[],line,col,e,rfl,.inr ⟨he,rfl,hX⟩⟩
end Go.Ab
