/- Lemmas. -/
import Derived.Test.YtdbfacakphncfaaGreatDoorG05
set_option maxRecDepth 1000000
set_option maxHeartbeats 4000000
set_option linter.unusedSimpArgs false
set_option linter.unusedVariables false
namespace Go.Ab
open Go.Proofs
theorem zOQ {vp:List Nat→Val×Int} (hvp:VPH vp) (s:List Nat) (h1:1≤s.length) (hb:nth0 s 0<256) (hs:s.length<9223372036854775807) :
  Om CC 35 [.t (.str s)] []=some (.val (uY (jC vp s)),[]):=by
 unfold jC;have q1:=zQZ s (by omega);have q2:=zRG hvp s hs;have q3:=zXA hvp s h1 hs;have q4:=zVX s h1 hb hs;have ho:(if wN (nth0 s 1) then (s.drop 1).take (cntW xF (s.drop 1)) else [])=ownX s:=rfl;rw[ho] at q1;have hol:(ownX s).length<s.length:=by
  unfold ownX;split
  ·rw[List.length_take,List.length_drop];omega
  exact h1
 obtain⟨c,hc⟩:∃c,s[0]?=some c:=⟨_,List.getElem?_eq_getElem (by omega)⟩;have hx:index Tryz.prog 9 (.t (.str s)) 0=some (.t (.int .u8 (c:Int))):=jK hc;have h0:nth0 s 0=c:=by unfold nth0;rw[hc];rfl
 rw[h0];have e1:((c:Int)==34)=(c==34):=zA1 c 34;have e2:((c:Int)==63)=(c==63):=zA1 c 63;have e3:((c:Int)==35)=(c==35):=zA1 c 35;have l1:=zHj c;have l2:=zC3 c;have w0:Om CC 67 [.t (.str s),.t (.int .i64 0),.t (.fn 71)] []=some (.val (.t (.int .i64 (cntW xF s:Nat))),[]) :=
  zCS 71 xF zMP zUi (fun x=>zZ _ x (by decide)) s 0 (by simp) (by omega)
 have hcn:=kP xF s;have htk:∀g,slice Tryz.prog g 9 (.t (.str s)) none (some (cntW xF s:Int)) none=some (.t (.str (s.take (cntW xF s)))):=fun g=>zBe hcn
 have hwo:IntKind.i64.wrap (1+((ownX s).length:Int))=((1+(ownX s).length:Nat):Int):=by rw[wrap64]<;>omega
 refine zV zZa rfl ?_
 (have F_:=c5 zK zO zL zI (c5 zH zS yF zEC (c5 yEe yDI zPB zJ0 (c3 zJB yDt (c2 yEh yDw))));show W CC 0 83 (zE 35) _ ⟨[(0,_)],[]⟩ _)
 generalize hn1:numX vp s=N1 at *;generalize zJ6 vp s=N2 at *;generalize sgnX s=N3 at *;generalize ownX s=own at *;generalize cntW xF s=n at *;obtain⟨⟨a1,a2,⟨a3,a4,a5⟩⟩,a6,a7⟩:=N1;obtain⟨⟨b1,b2,⟨b3,b4,b5⟩⟩,b6,b7⟩:=N2;obtain⟨⟨c1,c2,⟨c3,c4,c5⟩⟩,c6,c7⟩:=N3;simp only[uY] at q2 q3 q4;generalize s.take n=tk at *;have d1:decide ((tk.length:Int) > 12)=decide (12<tk.length):=by congr 1;simp;omega
 have d2:decide ((own.length:Int) > 12)=decide (12<own.length):=by congr 1;simp;omega
 have er1:errL tk=if 12<tk.length then 4 else 0:=rfl
 have er2:errL own=if 12<own.length then 4 else 0:=rfl
 cases hl:wN c with
 |true =>
  rw[hl] at l1;rw[if_pos rfl]
  (with_reducible repeat' first|apply aA|refine aB ?_|refine aC ?_|refine aD ?_|(first|apply zB|apply zA|apply zC|apply zD)<;>intro hg<;>try with_unfolding_all cases hg;done|refine aE ?_|refine aF ?_|refine aG ?_|refine aH ?_ ?_<;>intro hv<;>try with_unfolding_all cases hv;done)
  all_goals refine aK ?_ ?_
  all_goals first|rfl|(clear F_;simp_all [uY,VZ];done)
 |false =>
 rw[hl] at l1;rw[if_neg (by simp)];cases hd:yQ c with
 |true =>
  rw[hd] at l2;rw[if_pos rfl]
  (with_reducible repeat' first|apply aA|refine aB ?_|refine aC ?_|refine aD ?_|(first|apply zB|apply zA|apply zC|apply zD)<;>intro hg<;>try with_unfolding_all cases hg;done|refine aE ?_|refine aF ?_|refine aG ?_|refine aH ?_ ?_<;>intro hv<;>try with_unfolding_all cases hv;done)
  all_goals refine aK ?_ ?_
  all_goals first|rfl|(clear F_;simp_all [uY,VZ];done)
 |false =>
 rw[hd] at l2;rw[if_neg (by simp)]
 by_cases c34:c=34
 ·subst c34;rw[if_pos rfl]
  (with_reducible repeat' first|apply aA|refine aB ?_|refine aC ?_|refine aD ?_|(first|apply zB|apply zA|apply zC|apply zD)<;>intro hg<;>try with_unfolding_all cases hg;done|refine aE ?_|refine aF ?_|refine aG ?_|refine aH ?_ ?_<;>intro hv<;>try with_unfolding_all cases hv;done)
  all_goals refine aK ?_ ?_
  all_goals first|rfl|(clear F_;simp_all [uY,VZ];done)
 rw[if_neg c34];have f1:(c==34)=false:=by simpa using c34
 rw[f1] at e1
 by_cases c63:c=63
 ·subst c63;cases hi:wN (nth0 s 1) with
  |true =>
   rw[hi] at q1;rw[if_pos ⟨rfl,rfl⟩]
   (with_reducible repeat' first|apply aA|refine aB ?_|refine aC ?_|refine aD ?_|(first|apply zB|apply zA|apply zC|apply zD)<;>intro hg<;>try with_unfolding_all cases hg;done|refine aE ?_|refine aF ?_|refine aG ?_|refine aH ?_ ?_<;>intro hv<;>try with_unfolding_all cases hv;done)
   all_goals refine aK ?_ ?_
   all_goals first|rfl|(clear F_;simp_all [uY,VZ];done)
  |false =>
   rw[hi] at q1;rw[if_neg (by simp),if_pos rfl]
   (with_reducible repeat' first|apply aA|refine aB ?_|refine aC ?_|refine aD ?_|(first|apply zB|apply zA|apply zC|apply zD)<;>intro hg<;>try with_unfolding_all cases hg;done|refine aE ?_|refine aF ?_|refine aG ?_|refine aH ?_ ?_<;>intro hv<;>try with_unfolding_all cases hv;done)
   all_goals refine aK ?_ ?_
   all_goals first|rfl|(clear F_;simp_all [uY,VZ];done)
 have f2:(c==63)=false:=by simpa using c63
 rw[f2] at e2;rw[if_neg (fun h=>c63 h.1),if_neg c63]
 by_cases c35:c=35∧wN (nth0 s 1)=true
 ·obtain⟨rfl,hi⟩:=c35;rw[if_pos ⟨rfl,hi⟩];rw[hi] at q1
  (with_reducible repeat' first|apply aA|refine aB ?_|refine aC ?_|refine aD ?_|(first|apply zB|apply zA|apply zC|apply zD)<;>intro hg<;>try with_unfolding_all cases hg;done|refine aE ?_|refine aF ?_|refine aG ?_|refine aH ?_ ?_<;>intro hv<;>try with_unfolding_all cases hv;done)
  all_goals refine aK ?_ ?_
  all_goals first|rfl|(clear F_;simp_all [uY,VSym];done)
 rw[if_neg c35];generalize hi:wN (nth0 s 1)=bi at *;have g35:((c==35)&&bi)=false:=by
  cases hh:((c==35)&&bi) with
  |false=>rfl
  |true =>
   simp only[Bool.and_eq_true,beq_iff_eq] at hh;exact absurd hh c35
 generalize (c==35)=b35 at *;cases b35 with
 |false =>
  (with_reducible repeat' first|apply aA|refine aB ?_|refine aC ?_|refine aD ?_|(first|apply zB|apply zA|apply zC|apply zD)<;>intro hg<;>try with_unfolding_all cases hg;done|refine aE ?_|refine aF ?_|refine aG ?_|refine aH ?_ ?_<;>intro hv<;>try with_unfolding_all cases hv;done)
  all_goals refine aK ?_ ?_
  all_goals first|rfl|(clear F_;simp_all [uY,VZ];done)
 |true =>
  have hbi:bi=false:=by simpa using g35
  rw[hbi] at q1
  (with_reducible repeat' first|apply aA|refine aB ?_|refine aC ?_|refine aD ?_|(first|apply zB|apply zA|apply zC|apply zD)<;>intro hg<;>try with_unfolding_all cases hg;done|refine aE ?_|refine aF ?_|refine aG ?_|refine aH ?_ ?_<;>intro hv<;>try with_unfolding_all cases hv;done)
  all_goals refine aK ?_ ?_
  all_goals first|rfl|(clear F_;simp_all [uY,VZ];done)
def zBD:Code→Option (List Nat×Code×Code)
 |.rangeFunc _ ps a b=>some (ps.toList,a,b)
 |.seq a b=>match zBD a with
  |some r=>some r
  |none=>zBD b
 |.block _ b=>zBD b
 |.scope b=>zBD b
 |.loop b=>zBD b
 |.cond _ a b=>match zBD a with
  |some r=>some r
  |none=>zBD b
 |_=>none
def zHe(fn:Func)(kf:Nat):LoopC :=
 match fn.body with
 |some c=>match zBD c with
  |some (ps,a,b)=>⟨fn.ntmps,kf,ps,a,b⟩
  |none=>default
 |none=>default
theorem zNc {fn:Func} {kf m k:Nat} {keep:Nat→Option (List Nat)} {st:St} {Q:Ex→St→Prop} {c a b:Code} {ps:List Nat} (h1:fn.body=some c) (h2:zBD c=some (ps,a,b)) (hw:W CC m k keep a st Q) :
  W CC m k keep (zHe fn kf).asg st Q:=by
 unfold zHe;rw[h1];dsimp only;rw[h2];exact hw
theorem zL2 {fn:Func} {kf m k:Nat} {keep:Nat→Option (List Nat)} {st:St} {Q:Ex→St→Prop} {c a b:Code} {ps:List Nat} (h1:fn.body=some c) (h2:zBD c=some (ps,a,b)) (hw:W CC m k keep b st Q) :
  W CC m k keep (zHe fn kf).body st Q:=by
 unfold zHe;rw[h1];dsimp only;rw[h2];exact hw
theorem zBT{g:Look}{s:List Nat}{n:Nat}(h:n≤s.length):slice Tryz.prog g 9 (.t (.str s)) (some (n:Int)) none none=some (.t (.str (s.drop n))):=by
 simp [slice,zE4,h]
noncomputable def vN:LoopC:=zHe Tryz.f20 20
theorem zJg:vN.ps=[16,17]:=by kernel_rfl
theorem zB7:vN.k=43:=by kernel_rfl
theorem zDV:vN.kf=20:=by kernel_rfl
def zHJ(x:BTok)(l c:Int):Tok:=⟨x.1,x.2.1,x.2.2,l,c⟩
theorem zQU {vp:List Nat→Val×Int} (hvp:VPH vp) (s:List Nat) (i:Nat) (hi:i<s.length) (hb:∀b ∈ s,b<256) (hs:s.length≤65536) (line col p1 p2 e0:Int) :
  ∃b h',Om CC uJ [.yld 0,.box 5 0,.t (.agg [.int .i64 line,.int .i64 col])]
   [.loop vN [(1,.box 1 0),(2,.box 2 0),(3,.box 3 0),(4,.box 4 0)] 0 none,.box [.t (.str s)],.box [.t (.sl true true [])],.box [.t (.int .i64 p1),.t (.int .i64 p2)],.box [.t (.int .i64 e0)],.box [.t (.int .i64 (i:Int))]]
   = some (.val (.t (.bool b)),h')∧
   (b=true∧(jC vp (s.drop i)).2.2=0∧h'=[.loop vN [(1,.box 1 0),(2,.box 2 0),(3,.box 3 0),(4,.box 4 0)] 0 none,.box [.t (.str s)],.box [.hs 6 0],.box [.t (.int .i64 p1),.t (.int .i64 p2)],.box [.t (.int .i64 e0)],.box [.t (.int .i64 ((jC vp (s.drop i)).2.1:Nat))],
     .arr 7 0 false [(zHJ (jC vp (s.drop i)).1 line col).c]] ∨
    b=false∧(jC vp (s.drop i)).2.2≠0∧h'=[.loop vN [(1,.box 1 0),(2,.box 2 0),(3,.box 3 0),(4,.box 4 0)] 2 (some .ret),.box [.t (.str s)],.box [.t (.sl true true [])],.box [.t (.int .i64 line),.t (.int .i64 col)],.box [.t (.int .i64 (jC vp (s.drop i)).2.2)],.box [.t (.int .i64 (i:Int))]]):=by
 have hw:=zOQ hvp (s.drop i) (by rw[List.length_drop];omega) (by
  have e:nth0 (s.drop i) 0=s[i]:=by unfold nth0;simp [List.getElem?_drop,List.getElem?_eq_getElem hi]
  rw[e];exact hb _ (List.getElem_mem hi)) (by rw[List.length_drop];omega)
 have hsl:=fun g=>zBT (g:=g) (s:=s) (n:=i) (by omega)
 generalize jC vp (s.drop i)=N at *;obtain⟨⟨a1,a2,⟨a3,a4,a5⟩⟩,a6,a7⟩:=N;simp only[uY] at hw;refine zNh (C:=CC) (id:=0) (c:=vN) (by kernel_rfl) rfl (T1:=[(17,.t (.agg [.int .i64 line,.int .i64 col])),(16,.box 5 0),(43,.rnd),(1,.box 1 0),(2,.box 2 0),(3,.box 3 0),(4,.box 4 0)]) (by rw[zJg,zB7];rfl) (by kernel_rfl) ?_;rw[zB7,zDV];refine zNc (fn:=Tryz.f20) rfl rfl ?_
 (have F_:=c5 zK zO zL zI (c5 zH zS yB yG (c3 yF zPE zUn)))
 (with_reducible repeat' first|apply aA|refine aB ?_|refine aC ?_|refine aD ?_|(first|apply zB|apply zA|apply zC|apply zD)<;>intro hg<;>try with_unfolding_all cases hg;done|refine aE ?_|refine aF ?_|refine aG ?_|refine aH ?_ ?_<;>intro hv<;>try with_unfolding_all cases hv;done)
 refine⟨rfl,vN,[(1,.box 1 0),(2,.box 2 0),(3,.box 3 0),(4,.box 4 0)],rfl,?_⟩;rw[zB7,zDV];refine zL2 (fn:=Tryz.f20) rfl rfl ?_;simp only[patch,put1]
 (with_reducible repeat' first|apply aA|refine aB ?_|refine aC ?_|refine aD ?_|(first|apply zB|apply zA|apply zC|apply zD)<;>intro hg<;>try with_unfolding_all cases hg;done|refine aE ?_|refine aF ?_|refine aG ?_|refine aH ?_ ?_<;>intro hv<;>try with_unfolding_all cases hv;done)
 ·exact⟨some .ret,_,_,_,_,_,rfl,rfl,by kernel_rfl,.inr ⟨rfl,by simpa using hv,rfl⟩⟩
 exact⟨none,_,_,_,_,_,rfl,rfl,by kernel_rfl,.inl ⟨rfl,by simpa using hv,rfl⟩⟩
theorem zRW {vp:List Nat→Val×Int} (hvp:VPH vp) (s:List Nat) (i:Nat) (hi:i<s.length) (hb:∀b ∈ s,b<256) (hs:s.length≤65536) (line col p1 p2 e0:Int) (L:List Tok) (hL:L.length<4294967295) :
  ∃b h',Om CC uJ [.yld 0,.box 6 0,.t (.agg [.int .i64 line,.int .i64 col])]
   [.loop vN [(1,.box 1 0),(2,.box 2 0),(3,.box 4 0),(4,.box 5 0)] 0 none,.box [.t (.str s)],.box [.hs 3 0],.arr 7 0 false (L.map Tok.c),.box [.t (.int .i64 p1),.t (.int .i64 p2)],.box [.t (.int .i64 e0)],.box [.t (.int .i64 (i:Int))]]
   = some (.val (.t (.bool b)),h')∧
   (b=true∧(jC vp (s.drop i)).2.2=0∧h'=[.loop vN [(1,.box 1 0),(2,.box 2 0),(3,.box 4 0),(4,.box 5 0)] 0 none,.box [.t (.str s)],.box [.hs 3 0],.arr 7 0 false ((L++[zHJ (jC vp (s.drop i)).1 line col]).map Tok.c),.box [.t (.int .i64 p1),.t (.int .i64 p2)],.box [.t (.int .i64 e0)],.box [.t (.int .i64 ((jC vp (s.drop i)).2.1:Nat))]] ∨
    b=false∧(jC vp (s.drop i)).2.2≠0∧h'=[.loop vN [(1,.box 1 0),(2,.box 2 0),(3,.box 4 0),(4,.box 5 0)] 2 (some .ret),.box [.t (.str s)],.box [.t (.sl true true [])],.arr 7 0 false (L.map Tok.c),.box [.t (.int .i64 line),.t (.int .i64 col)],.box [.t (.int .i64 (jC vp (s.drop i)).2.2)],.box [.t (.int .i64 (i:Int))]]):=by
 have hw:=zOQ hvp (s.drop i) (by rw[List.length_drop];omega) (by
  have e:nth0 (s.drop i) 0=s[i]:=by unfold nth0;simp [List.getElem?_drop,List.getElem?_eq_getElem hi]
  rw[e];exact hb _ (List.getElem_mem hi)) (by rw[List.length_drop];omega)
 have hsl:=fun g=>zBT (g:=g) (s:=s) (n:=i) (by omega)
 have hsm:decide ((L.length:Nat)+1<4294967296)=true:=by(rw[decide_eq_true_eq];omega)
 generalize jC vp (s.drop i)=N at *;obtain⟨⟨a1,a2,⟨a3,a4,a5⟩⟩,a6,a7⟩:=N;simp only[uY] at hw;refine zNh (C:=CC) (id:=0) (c:=vN) (by kernel_rfl) rfl (T1:=[(17,.t (.agg [.int .i64 line,.int .i64 col])),(16,.box 6 0),(43,.rnd),(1,.box 1 0),(2,.box 2 0),(3,.box 4 0),(4,.box 5 0)]) (by rw[zJg,zB7];rfl) (by kernel_rfl) ?_;rw[zB7,zDV];refine zNc (fn:=Tryz.f20) rfl rfl ?_
 (have F_:=c5 zK zO zL zI (c5 zH zS yB yG (c3 yF zPE zUn)))
 (with_reducible repeat' first|apply aA|refine aB ?_|refine aC ?_|refine aD ?_|(first|apply zB|apply zA|apply zC|apply zD)<;>intro hg<;>try with_unfolding_all cases hg;done|refine aE ?_|refine aF ?_|refine aG ?_|refine aH ?_ ?_<;>intro hv<;>try with_unfolding_all cases hv;done)
 refine⟨rfl,vN,[(1,.box 1 0),(2,.box 2 0),(3,.box 4 0),(4,.box 5 0)],rfl,?_⟩;rw[zB7,zDV];refine zL2 (fn:=Tryz.f20) rfl rfl ?_;simp only[patch,put1]
 (with_reducible repeat' first|apply aA|refine aB ?_|refine aC ?_|refine aD ?_|(first|apply zB|apply zA|apply zC|apply zD)<;>intro hg<;>try with_unfolding_all cases hg;done|refine aE ?_|refine aF ?_|refine aG ?_|refine aH ?_ ?_<;>intro hv<;>try with_unfolding_all cases hv;done)
 ·exact⟨some .ret,_,_,_,_,_,rfl,rfl,by kernel_rfl,.inr ⟨rfl,by simpa using hv,rfl⟩⟩
 exact⟨none,_,_,_,_,_,rfl,rfl,by kernel_rfl,.inl ⟨rfl,by simpa using hv,by rw[List.map_append]⟩⟩
theorem zUq(c:Nat):Om CC 68 [.t (.int .u8 (c:Int))] []=some (.val (.t (.bool (c != 10))),[]):=by
 have h:((c:Int) != 10)=(c != 10):=by unfold bne;rw[← zA1 c 10];rfl
 refine zV yC2 rfl ?_
 (have F_:=c2 zL yD4;show W CC 0 5 (zE 68) _ ⟨[(0,_)],[]⟩ _)
 (with_reducible repeat' first|apply aA|refine aB ?_|refine aC ?_|refine aD ?_|(first|apply zB|apply zA|apply zC|apply zD)<;>intro hg<;>try with_unfolding_all cases hg;done|refine aE ?_|refine aF ?_|refine aG ?_|refine aH ?_ ?_<;>intro hv<;>try with_unfolding_all cases hv;done)
 all_goals refine aK ?_ ?_
 all_goals first|rfl|(clear F_;simp_all;done)
noncomputable def lexH(s:List Nat)(L:List Tok):Heap :=
 match L with
 |[]=>[.loop vN [(1,.box 1 0),(2,.box 2 0),(3,.box 3 0),(4,.box 4 0)] 0 none,.box [.t (.str s)],.box [.t (.sl true true [])],.box [.t (.int .i64 0),.t (.int .i64 0)],.box [.t (.int .i64 0)],.box [.t (.str s)]]
 |L=>[.loop vN [(1,.box 1 0),(2,.box 2 0),(3,.box 3 0),(4,.box 4 0)] 0 none,.box [.t (.str s)],.box [.hs 6 0],.box [.t (.int .i64 0),.t (.int .i64 0)],.box [.t (.int .i64 0)],.box [.t (.str s)],.arr 7 0 false (L.map Tok.c)]
noncomputable def lexE(s:List Nat)(line col e:Int):Heap :=
 [.loop vN [(1,.box 1 0),(2,.box 2 0),(3,.box 3 0),(4,.box 4 0)] 2 (some .ret),.box [.t (.str s)],.box [.t (.sl true true [])],.box [.t (.int .i64 line),.t (.int .i64 col)],.box [.t (.int .i64 e)],.box [.t (.str s)]]
structure LexI where
 i:Nat
 line:Int
 col:Int
 L:List Tok
noncomputable def lexS(s:List Nat)(a:LexI):St :=
 match a.L with
 |[]=>⟨[(0,.yld 0),(1,.box 5 0),(3,.box 6 0),(4,.t (.int .i64 (a.i:Int)))],lexH s []++[.box [.t (.int .i64 a.line),.t (.int .i64 a.col)]]⟩
 |t::r=>⟨[(0,.yld 0),(1,.box 5 0),(3,.box 7 0),(4,.t (.int .i64 (a.i:Int)))],lexH s (t::r)++[.box [.t (.int .i64 a.line),.t (.int .i64 a.col)]]⟩
theorem zSF {vp:List Nat→Val×Int} (hvp:VPH vp) (s:List Nat) (hb:∀b ∈ s,b<256) (hs:s.length≤65536) :
  ∃o h',Om CC 66 [.yld 0,.box 5 0] (lexH s [])=some (o,h')∧(o=.val (.tup []) ∧
   ((∃L:List Tok,h'=lexH s L∧lexB vp s=some (L.map Tok.b))∨∃line col e,e≠0∧h'=lexE s line col e∧lexB vp s=none)):=by
 refine wS zYa rfl ?_ (by kernel_rfl)
 (have F_:=c5 zO zR zL zI (c5 zS yEj zEC yB9 (c2 yDY zJ0));show W CC 6 46 (zE 66) _ ⟨[(0,_),(1,_)],[_,_,_,_,_,_]⟩ _)
 (with_reducible repeat' first|apply aA|refine aB ?_|refine aC ?_|refine aD ?_|(first|apply zB|apply zA|apply zC|apply zD)<;>intro hg<;>try with_unfolding_all cases hg;done|refine aE ?_|refine aF ?_|refine aG ?_|refine aH ?_ ?_<;>intro hv<;>try with_unfolding_all cases hv;done)
 refine yS (α:=LexI) (lexS s) (fun a=>s.length - a.i) (fun a=>a.i≤s.length∧a.L.length≤a.i∧lexB vp s=andL (some (a.L.map Tok.b)) (lexB vp (s.drop a.i))) ⟨0,1,1,[]⟩ (by exact aTd) ⟨Nat.zero_le _,Nat.zero_le _,by simp [zTv]⟩ ?_;rintro⟨i,line,col,L⟩ ⟨hi,hL,hB⟩;dsimp only at hi hL hB
 by_cases hi':i<s.length
 ·have hw:IntKind.i64.wrap ((i:Int)+1)=((i+1:Nat):Int):=by rw[wrap64]<;>omega
  have hd:decide ((i:Int)<s.length)=true:=by simpa using hi'
  obtain⟨c,hc⟩:∃c,s[i]?=some c:=⟨_,List.getElem?_eq_getElem hi'⟩;have hx:=jK hc;have hdc:s.drop i=c::s.drop (i+1):=by
   rw[List.getElem?_eq_getElem hi'] at hc;rw[List.drop_eq_getElem_cons hi',Option.some.inj hc]
  match L,hL,hB with
  |[],hL,hB =>
  have hround:=zQU hvp s i hi' hb hs line col 0 0 0
  show W CC _ _ _ _ ⟨[(0,.yld 0),(1,.box 5 0),(3,.box 6 0),(4,.t (.int .i64 (i:Int)))],[.loop vN [(1,.box 1 0),(2,.box 2 0),(3,.box 3 0),(4,.box 4 0)] 0 none,.box [.t (.str s)],.box [.t (.sl true true [])],.box [.t (.int .i64 0),.t (.int .i64 0)],.box [.t (.int .i64 0)],.box [.t (.str s)],.box [.t (.int .i64 line),.t (.int .i64 col)]]⟩ _
  skip
  by_cases c10:c=10
  ·subst c10;have hX:lexB vp s=andL (some (List.map Tok.b [])) (lexB vp (s.drop (i+1))):=by rw[hB,zDY hc (.inl rfl)]
   clear hB hround
   (with_reducible repeat' first|apply aA|refine aB ?_|refine aC ?_|refine aD ?_|(first|apply zB|apply zA|apply zC|apply zD)<;>intro hg<;>try with_unfolding_all cases hg;done|refine aE ?_|refine aF ?_|refine aG ?_|refine aH ?_ ?_<;>intro hv<;>try with_unfolding_all cases hv;done)
   skip
   exact zM ⟨i+1,IntKind.i64.wrap (line+1),IntKind.i64.wrap (0+1),[]⟩ (by dsimp only;omega) ⟨by dsimp only;omega,by dsimp only;omega,hX⟩ (by exact aTd)
  have e10:((c:Int)==10)=false:=by(have:=zA1 c 10;simp at this ⊢;omega)
  by_cases c59:c=59
  ·subst c59;have hX:lexB vp s=andL (some (List.map Tok.b [])) (lexB vp (s.drop (i+cntW (fun c=>c != 10) (s.drop i)))):=by rw[hB,zG3 hc]
   have hwh:Om CC 67 [.t (.str s),.t (.int .i64 (i:Int)),.t (.fn 68)] []=some (.val (.t (.int .i64 (cntW (fun c=>c != 10) (s.drop i):Nat))),[]) :=
    zCS 68 (fun c=>c != 10) zUq zUo (fun x=>zZ _ x (by decide)) s i (by omega) (by omega)
   have hn1:1≤cntW (fun c=>c != 10) (s.drop i):=by rw[zI3 hc (by decide)];omega
   have hn2:=kP (fun c=>c != 10) (s.drop i);rw[List.length_drop] at hn2;generalize cntW (fun c=>c != 10) (s.drop i)=n at *;have hw3:IntKind.i64.wrap ((i:Int)+(n:Int))=((i+n:Nat):Int):=by rw[wrap64]<;>omega
   clear hB hround
   (with_reducible repeat' first|apply aA|refine aB ?_|refine aC ?_|refine aD ?_|(first|apply zB|apply zA|apply zC|apply zD)<;>intro hg<;>try with_unfolding_all cases hg;done|refine aE ?_|refine aF ?_|refine aG ?_|refine aH ?_ ?_<;>intro hv<;>try with_unfolding_all cases hv;done)
   skip
   exact zM ⟨i+n,line,IntKind.i64.wrap (col+n),[]⟩ (by dsimp only;omega) ⟨by dsimp only;omega,by dsimp only;omega,hX⟩ (by exact aTd)
  have e59:((c:Int)==59)=false:=by(have:=zA1 c 59;simp at this ⊢;omega)
  by_cases c32:c=32
  ·subst c32;have hX:lexB vp s=andL (some (List.map Tok.b [])) (lexB vp (s.drop (i+1))):=by rw[hB,zDY hc (.inr rfl)]
   clear hB hround
   (with_reducible repeat' first|apply aA|refine aB ?_|refine aC ?_|refine aD ?_|(first|apply zB|apply zA|apply zC|apply zD)<;>intro hg<;>try with_unfolding_all cases hg;done|refine aE ?_|refine aF ?_|refine aG ?_|refine aH ?_ ?_<;>intro hv<;>try with_unfolding_all cases hv;done)
   skip
   exact zM ⟨i+1,line,IntKind.i64.wrap (col+1),[]⟩ (by dsimp only;omega) ⟨by dsimp only;omega,by dsimp only;omega,hX⟩ (by exact aTd)
  have e32:((c:Int) != 32)=true:=by(have:=zA1 c 32;simp at this ⊢;omega)
  obtain⟨b,h',hr,hq⟩:=hround;obtain⟨hy1,hy2⟩:=zMu vp (s.drop i);rcases hq with ⟨rfl,h0,rfl⟩|⟨rfl,h0,rfl⟩
  ·have hx0:(xO vp (s.drop i)).2.2=0:=by rw[← hy1];exact h0
   rw[hy2 hx0] at hr h0;have hp:1≤(xO vp (s.drop i)).2.1∧(xO vp (s.drop i)).2.1≤s.length - i:=by
    rw[hdc] at hx0 ⊢;exact⟨zLN vp _ _ hx0,by have:=zIE vp _ _ hx0;rw[List.length_drop] at this;omega⟩
   have hX:lexB vp s=andL (some (List.map Tok.b ([]++[zHJ (xO vp (s.drop i)).1 line col]))) (lexB vp (s.drop (i+(xO vp (s.drop i)).2.1))):=by
    rw[hB,zLl hc c10 c32 c59 hx0 hp.1,zJy,List.map_append];rfl
   clear hB hy1 hy2 hx0 hdc;generalize xO vp (s.drop i)=N at *;obtain⟨x,n,e⟩:=N;dsimp only at hr h0 hp hX;have hw3:IntKind.i64.wrap ((i:Int)+(n:Int))=((i+n:Nat):Int):=by rw[wrap64]<;>omega
   generalize zHJ x line col=tk at *
   skip
   skip
   (with_reducible repeat' first|apply aA|refine aB ?_|refine aC ?_|refine aD ?_|(first|apply zB|apply zA|apply zC|apply zD)<;>intro hg<;>try with_unfolding_all cases hg;done|refine aE ?_|refine aF ?_|refine aG ?_|refine aH ?_ ?_<;>intro hv<;>try with_unfolding_all cases hv;done)
   exact zM ⟨i+n,line,IntKind.i64.wrap (col+n),[tk]⟩ (by dsimp only;omega) ⟨by dsimp only;omega,by(dsimp only[List.length_cons,List.length_nil];omega),hX⟩ (by exact aTd)
  ·have hX:lexB vp s=none:=by
    rw[hB,zMZ hc c10 c32 c59 (by rw[← hy1];exact h0),zLE]
   clear hB hy1 hy2 hdc;generalize jC vp (s.drop i)=N at *;obtain⟨x,n,e⟩:=N;dsimp only at hr h0 hX
   (with_reducible repeat' first|apply aA|refine aB ?_|refine aC ?_|refine aD ?_|(first|apply zB|apply zA|apply zC|apply zD)<;>intro hg<;>try with_unfolding_all cases hg;done|refine aE ?_|refine aF ?_|refine aG ?_|refine aH ?_ ?_<;>intro hv<;>try with_unfolding_all cases hv;done)
   (refine aJ ?_)
   exact⟨rfl,.inr ⟨line,col,e,h0,rfl,hX⟩⟩
  |t::r,hL,hB =>
  have hround:=zRW hvp s i hi' hb hs line col 0 0 0 (t::r) (by omega)
  show W CC _ _ _ _ ⟨[(0,.yld 0),(1,.box 5 0),(3,.box 7 0),(4,.t (.int .i64 (i:Int)))],[.loop vN [(1,.box 1 0),(2,.box 2 0),(3,.box 3 0),(4,.box 4 0)] 0 none,.box [.t (.str s)],.box [.hs 6 0],.box [.t (.int .i64 0),.t (.int .i64 0)],.box [.t (.int .i64 0)],.box [.t (.str s)],.arr 7 0 false ((t::r).map Tok.c),.box [.t (.int .i64 line),.t (.int .i64 col)]]⟩ _
  generalize hTR:t::r=TR at *
  by_cases c10:c=10
  ·subst c10;have hX:lexB vp s=andL (some (List.map Tok.b TR)) (lexB vp (s.drop (i+1))):=by rw[hB,zDY hc (.inl rfl)]
   clear hB hround
   (with_reducible repeat' first|apply aA|refine aB ?_|refine aC ?_|refine aD ?_|(first|apply zB|apply zA|apply zC|apply zD)<;>intro hg<;>try with_unfolding_all cases hg;done|refine aE ?_|refine aF ?_|refine aG ?_|refine aH ?_ ?_<;>intro hv<;>try with_unfolding_all cases hv;done)
   subst hTR;exact zM ⟨i+1,IntKind.i64.wrap (line+1),IntKind.i64.wrap (0+1),t::r⟩ (by dsimp only;omega) ⟨by dsimp only;omega,by dsimp only;omega,hX⟩ (by exact aTd)
  have e10:((c:Int)==10)=false:=by(have:=zA1 c 10;simp at this ⊢;omega)
  by_cases c59:c=59
  ·subst c59;have hX:lexB vp s=andL (some (List.map Tok.b TR)) (lexB vp (s.drop (i+cntW (fun c=>c != 10) (s.drop i)))):=by rw[hB,zG3 hc]
   have hwh:Om CC 67 [.t (.str s),.t (.int .i64 (i:Int)),.t (.fn 68)] []=some (.val (.t (.int .i64 (cntW (fun c=>c != 10) (s.drop i):Nat))),[]) :=
    zCS 68 (fun c=>c != 10) zUq zUo (fun x=>zZ _ x (by decide)) s i (by omega) (by omega)
   have hn1:1≤cntW (fun c=>c != 10) (s.drop i):=by rw[zI3 hc (by decide)];omega
   have hn2:=kP (fun c=>c != 10) (s.drop i);rw[List.length_drop] at hn2;generalize cntW (fun c=>c != 10) (s.drop i)=n at *;have hw3:IntKind.i64.wrap ((i:Int)+(n:Int))=((i+n:Nat):Int):=by rw[wrap64]<;>omega
   clear hB hround
   (with_reducible repeat' first|apply aA|refine aB ?_|refine aC ?_|refine aD ?_|(first|apply zB|apply zA|apply zC|apply zD)<;>intro hg<;>try with_unfolding_all cases hg;done|refine aE ?_|refine aF ?_|refine aG ?_|refine aH ?_ ?_<;>intro hv<;>try with_unfolding_all cases hv;done)
   subst hTR;exact zM ⟨i+n,line,IntKind.i64.wrap (col+n),t::r⟩ (by dsimp only;omega) ⟨by dsimp only;omega,by dsimp only;omega,hX⟩ (by exact aTd)
  have e59:((c:Int)==59)=false:=by(have:=zA1 c 59;simp at this ⊢;omega)
  by_cases c32:c=32
  ·subst c32;have hX:lexB vp s=andL (some (List.map Tok.b TR)) (lexB vp (s.drop (i+1))):=by rw[hB,zDY hc (.inr rfl)]
   clear hB hround
   (with_reducible repeat' first|apply aA|refine aB ?_|refine aC ?_|refine aD ?_|(first|apply zB|apply zA|apply zC|apply zD)<;>intro hg<;>try with_unfolding_all cases hg;done|refine aE ?_|refine aF ?_|refine aG ?_|refine aH ?_ ?_<;>intro hv<;>try with_unfolding_all cases hv;done)
   subst hTR;exact zM ⟨i+1,line,IntKind.i64.wrap (col+1),t::r⟩ (by dsimp only;omega) ⟨by dsimp only;omega,by dsimp only;omega,hX⟩ (by exact aTd)
  have e32:((c:Int) != 32)=true:=by(have:=zA1 c 32;simp at this ⊢;omega)
  obtain⟨b,h',hr,hq⟩:=hround;obtain⟨hy1,hy2⟩:=zMu vp (s.drop i);rcases hq with ⟨rfl,h0,rfl⟩|⟨rfl,h0,rfl⟩
  ·have hx0:(xO vp (s.drop i)).2.2=0:=by rw[← hy1];exact h0
   rw[hy2 hx0] at hr h0;have hp:1≤(xO vp (s.drop i)).2.1∧(xO vp (s.drop i)).2.1≤s.length - i:=by
    rw[hdc] at hx0 ⊢;exact⟨zLN vp _ _ hx0,by have:=zIE vp _ _ hx0;rw[List.length_drop] at this;omega⟩
   have hX:lexB vp s=andL (some (List.map Tok.b (TR++[zHJ (xO vp (s.drop i)).1 line col]))) (lexB vp (s.drop (i+(xO vp (s.drop i)).2.1))):=by
    rw[hB,zLl hc c10 c32 c59 hx0 hp.1,zJy,List.map_append];rfl
   clear hB hy1 hy2 hx0 hdc;generalize xO vp (s.drop i)=N at *;obtain⟨x,n,e⟩:=N;dsimp only at hr h0 hp hX;have hw3:IntKind.i64.wrap ((i:Int)+(n:Int))=((i+n:Nat):Int):=by rw[wrap64]<;>omega
   generalize zHJ x line col=tk at *;obtain⟨t2,r2,hT2⟩:∃t2 r2,TR++[tk]=t2::r2:=by cases TR with|nil=>exact⟨_,_,rfl⟩|cons a b=>exact⟨_,_,rfl⟩
   rw[hT2] at hr hX
   (with_reducible repeat' first|apply aA|refine aB ?_|refine aC ?_|refine aD ?_|(first|apply zB|apply zA|apply zC|apply zD)<;>intro hg<;>try with_unfolding_all cases hg;done|refine aE ?_|refine aF ?_|refine aG ?_|refine aH ?_ ?_<;>intro hv<;>try with_unfolding_all cases hv;done)
   exact zM ⟨i+n,line,IntKind.i64.wrap (col+n),t2::r2⟩ (by dsimp only;omega) ⟨by dsimp only;omega,by(have:=congrArg List.length hT2;simp only[List.length_append,List.length_cons,List.length_nil] at this;dsimp only[List.length_cons];omega),hX⟩ (by exact aTd)
  have hX:lexB vp s=none:=by
   rw[hB,zMZ hc c10 c32 c59 (by rw[← hy1];exact h0),zLE]
  clear hB hy1 hy2 hdc;generalize jC vp (s.drop i)=N at *;obtain⟨x,n,e⟩:=N;dsimp only at hr h0 hX
  (with_reducible repeat' first|apply aA|refine aB ?_|refine aC ?_|refine aD ?_|(first|apply zB|apply zA|apply zC|apply zD)<;>intro hg<;>try with_unfolding_all cases hg;done|refine aE ?_|refine aF ?_|refine aG ?_|refine aH ?_ ?_<;>intro hv<;>try with_unfolding_all cases hv;done)
  (refine aJ ?_)
  exact⟨rfl,.inr ⟨line,col,e,h0,rfl,hX⟩⟩
 obtain rfl:i=s.length:=by omega
 have hd:decide ((s.length:Int)<s.length)=false:=by simp
 have hX:lexB vp s=some (L.map Tok.b):=by rw[hB,List.drop_length,zTV];simp [andL]
 match L,hL,hX with
 |[],hL,hX =>
  simp only[lexS,lexH,List.cons_append,List.nil_append]
  (with_reducible repeat' first|apply aA|refine aB ?_|refine aC ?_|refine aD ?_|(first|apply zB|apply zA|apply zC|apply zD)<;>intro hg<;>try with_unfolding_all cases hg;done|refine aE ?_|refine aF ?_|refine aG ?_|refine aH ?_ ?_<;>intro hv<;>try with_unfolding_all cases hv;done)
  (refine aL ?_)
  exact⟨rfl,.inl ⟨[],rfl,hX⟩⟩
 |t::r,hL,hX =>
  simp only[lexS,lexH,List.cons_append,List.nil_append]
  (with_reducible repeat' first|apply aA|refine aB ?_|refine aC ?_|refine aD ?_|(first|apply zB|apply zA|apply zC|apply zD)<;>intro hg<;>try with_unfolding_all cases hg;done|refine aE ?_|refine aF ?_|refine aG ?_|refine aH ?_ ?_<;>intro hv<;>try with_unfolding_all cases hv;done)
  (refine aL ?_)
  exact⟨rfl,.inl ⟨t::r,rfl,hX⟩⟩
theorem zRo {C:Cfg} {ρ:Oracle} {k:Nat} {keep:Nat→Option (List Nat)} {f:Operand} {ps:List Nat} {asg body:Code} {st st':St} {T' T1:Env} {c c2:LoopC} {v:AV} {p:Patch} {T2:List (Nat×AV)} {b:Nat} {jump:Option Code} {e:Ex} {h2:Heap}
  (h1:zEh k (yD keep body) st.T=some T') (hp:zAS k .nov st.T=some T1) (hc:(⟨k,kfOf keep,ps,asg,body⟩:LoopC)=c)
  (h3:zF4 C ρ (upd (nth st.h) [(st.h.length,.loop c T' 0 none)]) (st.h.length+1) (zJ st.T f) [.yld st.h.length]=some (.val v,p))
  (hh:patch (patch st.h [(st.h.length,.loop c T' 0 none)]) p=h2)
  (h4:nth h2 st.h.length=some (.loop c2 T2 b jump)) (hb:Nat.beq b 1=false)
  (h5:zDy jump ⟨T1,patch h2 [(st.h.length,.loop c2 T2 3 jump)]⟩=some (e,st')):zDE C ρ k keep f ps asg body st=some (e,st'):=by
 subst hc;unfold zDE;rw[h1,hp];dsimp only;rw[h3];dsimp only;rw[hh,h4];dsimp only;rw[hb];exact h5
theorem zPH {C:Cfg} {m k:Nat} {keep:Nat→Option (List Nat)} {f:Operand} {ps:Array Tmp} {asg body:Code} {st st':St} {Q:Ex→St→Prop} {T' T1:Env} (c:LoopC) {c2:LoopC} {v:AV} {p:Patch} {T2:List (Nat×AV)} {b:Nat} {jump:Option Code} {e:Ex} {h2:Heap}
  (hq:Q e st') (hc:(⟨k,kfOf keep,ps.toList,asg,body⟩:LoopC)=c:=by kernel_rfl)
  (h1:zEh k (yD keep body) st.T=some T':=by(simp only[Ab.get,F_,List.map,List.zip_cons_cons,List.zip_nil_right,zU,zEh,yD,mem]<;>exact rfl)) (hp:zAS k .nov st.T=some T1:=by(simp only[zAS,yZ,Ab.get,Nat.beq];exact rfl))
  (h3:zF4 C (Om C) (upd (nth st.h) [(st.h.length,.loop c T' 0 none)]) (st.h.length+1) (zJ st.T f) [.yld st.h.length]=some (.val v,p):=by(simp only[*,uZ,vR,zZ,List.all_nil,List.append_nil,List.cons_append,List.length_cons,List.length_nil,List.map_cons,List.map_nil,List.nil_append,Nat.beq,Nat.reduceAdd,Nat.reduceEqDiff,Nat.reduceLT,Nat.zero_add,Option.getD_some,Way.id,Way.ver,and_self,back,kC,zHG,zEG,vH,vX,wG,zF4,catMap,cond_false,cond_true,decide_false,decide_true,depth,yH,fresh,get,getN,yW,mem,ne_eq,not_false_eq_true,nth,zJ,place,plain,uK,reach,refs,yK,xH,ren,renL,renO,sub,sub1,upd,zFW,kJ,view,yE];exact rfl))
  (hh:patch (patch st.h [(st.h.length,.loop c T' 0 none)]) p=h2:=by exact rfl)
  (h4:nth h2 st.h.length=some (.loop c2 T2 b jump):=by exact rfl) (hb:Nat.beq b 1=false:=by exact rfl)
  (h5:zDy jump ⟨T1,patch h2 [(st.h.length,.loop c2 T2 3 jump)]⟩=some (e,st'):=by exact rfl):W C m k keep (.rangeFunc f ps asg body) st Q :=
 zWT (zRo h1 hp hc h3 hh h4 hb h5) hq
theorem aLd {C:Cfg} {f:FuncId} {fn:Func} {m:Nat} {R:Out→Heap→Prop} {st:St} {v v':AV} {h':Heap} (h3:R (.val v') h') (h1:results C.P fn st=some v:=by(simp only[uZ,results,qY,zAA,Ab.get,Nat.beq,load,loadCells,nth,cut,mkAgg,trees,Option.map_some,List.map_cons,List.map_nil,List.length_cons,List.length_nil,List.take,List.drop,Nat.zero_add,Nat.add_zero,Nat.reduceAdd,Nat.reduceLeDiff,if_true,F_, *];exact rfl))
  (h2:xL C f m v st.h=some (v',h'):=by(first|exact qS _ _ _ _|exact jF _ _ _ _ _|exact jG _ _ _ _ _ _|(simp only[if_true]<;>exact rfl)|kernel_rfl))
  (h0:yZ fn.ntmps st.T=some [.nov]:=by kernel_rfl):zKp C f fn m R .ret st :=
 ⟨_,h0,_,_,by rw[leave,leave,h1];dsimp only;rw[h2],h3⟩
theorem zPW(s:List Nat):Om CC 34 [.t (.str s)] []=some (.val (.fn 66 [] [.box 0 0]),[.box [.t (.str s)]]):=by
 refine zV zYq rfl ?_
 (have F_:=c2 zI yDL;show W CC 0 4 (zE 34) _ ⟨[(0,_)],[]⟩ _)
 (with_reducible repeat' first|apply aA|refine aB ?_|refine aC ?_|refine aD ?_|(first|apply zB|apply zA|apply zC|apply zD)<;>intro hg<;>try with_unfolding_all cases hg;done|refine aE ?_|refine aF ?_|refine aG ?_|refine aH ?_ ?_<;>intro hv<;>try with_unfolding_all cases hv;done)
 all_goals refine aK ?_ ?_
 all_goals first|rfl
def zUr(vp:List Nat→Val×Int)(s:List Nat)(L:List Tok)(e:Int):Prop:=e=0∧lexB vp s=some (L.map Tok.b)∨e≠0∧L=[]∧lexB vp s=none
def zRz(L:List Tok)(line col e:Int):AV:=.tup [.t (.sl L.isEmpty L.isEmpty (L.map Tok.c)),.t (.agg [.int .i64 line,.int .i64 col]),.t (.int .i64 e)]
theorem yAB {vp:List Nat→Val×Int} (hvp:VPH vp) (s:List Nat) (hb:∀b ∈ s,b<256) (hs:s.length≤65536) :
  ∃o h',Om CC 20 [.t (.str s)] []=some (o,h')∧(h'=[]∧∃L line col e,o=.val (zRz L line col e)∧zUr vp s L e):=by
 have hd:decide ((s.length:Int) > 65536)=false:=by simp;omega
 have h34:=zPW s;obtain⟨o,h',hst,rfl,hcase⟩:=zSF hvp s hb hs;simp only[lexH] at hst;have hb66:=@yD9;refine zGd yBd rfl ?_ (by kernel_rfl)
 (have F_:=c5 zK zO zL zI (c5 zH zS yB yG (c3 yF zPE yDk));show W CC 0 43 (zE 20) _ ⟨[(0,_)],[]⟩ _)
 (with_reducible repeat' first|apply aA|refine aB ?_|refine aC ?_|refine aD ?_|(first|apply zB|apply zA|apply zC|apply zD)<;>intro hg<;>try with_unfolding_all cases hg;done|refine aE ?_|refine aF ?_|refine aG ?_|refine aH ?_ ?_<;>intro hv<;>try with_unfolding_all cases hv;done)
 rcases hcase with ⟨L,rfl,hX⟩|⟨line,col,e,he,rfl,hX⟩
 ·match L,hX with
  |[],hX =>
   simp only[lexH] at hst;refine zPH vN ?_;simp only[patch,put1,List.length_cons,List.length_nil,Nat.reduceAdd,Nat.sub_self,Nat.add_zero,Nat.zero_add]
   (with_reducible repeat' first|apply aA|refine aB ?_|refine aC ?_|refine aD ?_|(first|apply zB|apply zA|apply zC|apply zD)<;>intro hg<;>try with_unfolding_all cases hg;done|refine aE ?_|refine aF ?_|refine aG ?_|refine aH ?_ ?_<;>intro hv<;>try with_unfolding_all cases hv;done)
   refine aLd ?_;exact⟨rfl,[],0,0,0,rfl,.inl ⟨rfl,hX⟩⟩
  |t::r,hX =>
   simp only[lexH] at hst;refine zPH vN ?_;simp only[patch,put1,List.length_cons,List.length_nil,Nat.reduceAdd,Nat.sub_self,Nat.add_zero,Nat.zero_add]
   (with_reducible repeat' first|apply aA|refine aB ?_|refine aC ?_|refine aD ?_|(first|apply zB|apply zA|apply zC|apply zD)<;>intro hg<;>try with_unfolding_all cases hg;done|refine aE ?_|refine aF ?_|refine aG ?_|refine aH ?_ ?_<;>intro hv<;>try with_unfolding_all cases hv;done)
   refine aLd ?_;exact⟨rfl,t::r,0,0,0,rfl,.inl ⟨rfl,hX⟩⟩
 simp only[lexE] at hst;refine zPH vN ?_;simp only[patch,put1,List.length_cons,List.length_nil,Nat.reduceAdd,Nat.sub_self,Nat.add_zero,Nat.zero_add]
 (with_reducible repeat' first|apply aA|refine aB ?_|refine aC ?_|refine aD ?_|(first|apply zB|apply zA|apply zC|apply zD)<;>intro hg<;>try with_unfolding_all cases hg;done|refine aE ?_|refine aF ?_|refine aG ?_|refine aH ?_ ?_<;>intro hv<;>try with_unfolding_all cases hv;done)
 refine aLd ?_;exact⟨rfl,[],line,col,e,rfl,.inr ⟨he,rfl,hX⟩⟩
end Go.Ab
