/- Lemmas. -/
import Derived.Test.YtdbfacakphncfaaGreatDoorG35
import Derived.Test.YtdbfacakphncfaaGreatDoorG24
set_option maxRecDepth 1000000
set_option maxHeartbeats 40000000
set_option linter.all false
namespace Go.Ab
open Go.Proofs
attribute [local irreducible] W RW RR
def zF6{k n:Int}{s:List Nat}{e:Int}(h:(e==0)=false):Om CC 86 [.t (.agg [.int .u8 k,.int .i64 n,.str s,.int .i64 e])] []=some (.val (.t (.agg [.int .u8 k,.int .i64 n,.str s,.int .i64 e])),[]):=by
 refine zL zOJ rfl ?_
 (have F_:=xaZ;show W CC 0 20 (zA 86) _ ⟨[(0,_)],[]⟩ _)
 (refine gA ?_)
 all_goals (refine aK ?_ ?_)<;>(rfl)
def zJf {k n:Int} {s:List Nat} {e:Int} (h:(e==0)=false) (ht:Om CC 86 [.t (.agg [.int .u8 k,.int .i64 n,.str s,.int .i64 e])] []=some (.val (.t (.agg [.int .u8 k,.int .i64 n,.str s,.int .i64 e])),[])) :
  Om CC 43 [.t (.agg [.int .u8 k,.int .i64 n,.str s,.int .i64 e])] []=some (.val (.t (.agg [.int .u8 k,.int .i64 n,.str s,.int .i64 e])),[]):=by
 refine zL zPb rfl ?_
 (have F_:=c5 zF zE zC zB (c3 zR zEb (c2 zR0 zMA));show W CC 0 13 (zA 43) _ ⟨[(0,_)],[]⟩ _)
 (refine gA ?_)
 all_goals (refine aK ?_ ?_)<;>(rfl)
def yHZ:Om CC 43 [.t (.agg [.int .u8 4,.int .i64 1,.str [],.int .i64 0])] []=some (.val (.t (.agg [.int .u8 4,.int .i64 0,.str [],.int .i64 0])),[]):=vK (n:=200) (by kernel_rfl)
def zGC{k n:Int}{s:List Nat}{e:Int}{k' n':Int}{s':List Nat}{e':Int}(h:Om CC 43 [.t (.agg [.int .u8 k,.int .i64 n,.str s,.int .i64 e])] []=some (.val (.t (.agg [.int .u8 k',.int .i64 n',.str s',.int .i64 e'])),[])):NotU ⟨⟨k,n,s⟩,e⟩=⟨⟨k',n',s'⟩,e'⟩:=by
 have h2:=zJt k n s e;rw[h] at h2;simp only[Option.some.injEq,Prod.mk.injEq,Out.val.injEq,AV.t.injEq,Tree.agg.injEq,List.cons.injEq,Tree.int.injEq,Tree.str.injEq,and_true,true_and] at h2;obtain⟨h3,h4,h5,h6⟩:=h2;rw[h3,h4,h5,h6]
def yIz(self:Val)(vars:List Bind):zYr (SemA self vars):=by
 rintro⟨⟨k,n,s⟩,e⟩ ha hp;have hk:zET (NotU ⟨⟨k,n,s⟩,e⟩):=hp;rcases ha.2 with h|h|h|h
 ·have he:(e==0)=false:=by simpa using h
  rw[zGC (zJf he (zF6 he))] at hk;exact absurd hk.1 h
 ·have h':(⟨k,n,s⟩:Val)=VT:=h
  by_cases he:e=0
  ·subst he;injection h' with h1 h2 h3
   subst h1 h2 h3;rw[zGC yHZ] at hk;exact absurd hk.2 (by decide)
  have hz:(e==0)=false:=by simpa using he
  rw[zGC (zJf hz (zF6 hz))] at hk;exact absurd hk.1 he
 ·have h':(⟨k,n,s⟩:Val)=VF:=h
  by_cases he:e=0
  ·refine⟨he,fun hq=>?_⟩;have:=hq.2;dsimp only at this;rw[h'] at this;exact absurd this (by decide)
  have hz:(e==0)=false:=by simpa using he
  rw[zGC (zJf hz (zF6 hz))] at hk;exact absurd hk.1 he
 have h':(⟨k,n,s⟩:Val)=VZ:=h
 by_cases he:e=0
 ·refine⟨he,fun hq=>?_⟩;have:=hq.2;dsimp only at this;rw[h'] at this;exact absurd this (by decide)
 have hz:(e==0)=false:=by simpa using he
 rw[zGC (zJf hz (zF6 hz))] at hk;exact absurd hk.1 he
def zVc {vp:List Nat→Val×Int} (self:Val) (vars:List Bind) {u:UT} {w L:List BT} {s:List Nat} {T N:List Test} (h:UWs u w) (h1:u.isT) (h2:u.wf L) (h3:u.nd≤4) (hT:T.map Test.s=(u.g []).1)
  (hl:lexB vp s=some (nmB [110,111,116]::sgB [40]::(w++[sgB [41]]))) (hN:ReadOK vp s N) (hp:jK (xH (N.map Test.s) self vars)=true):(xH (T.map Test.s) self vars).e=0∧jK (xH (T.map Test.s) self vars)=false:=by
 obtain⟨l,q1,q2,rfl⟩:=hN.lex;rw[hl] at q1;injection q1 with q1
 have hn:=zST (T:=(xB l 0).1) h h1 h2 h3 q1.symm (Prod.ext rfl q2);obtain⟨a,b1,b2⟩:=u.root [] h1;simp only[zLC] at hp ⊢;rw[zIb (zFM self vars _),hn,b1] at hp;have:=zZU (zR7 self vars) (yIz self vars) b2 hp (zFM self vars _);rw[hT];refine⟨this.1,?_⟩;cases hq:jK (kB (SemA self vars) (u.g []).1) with
 |false=>rfl
 |true=>exact absurd ((zIb (zFM self vars _)).1 hq) this.2
def zT7 {vp:List Nat→Val×Int} (self:Val) (vars:List Bind) {s m:List Nat} {w:List BT} {y:Option (List BT)} {T M:List Test} (hT:ReadOK vp s T) (hl:lexB vp s=some w) (hm:lexB vp m=andL (some (w++[comma])) y) (hM:ReadOK vp m M)
  (hp:jK (xH (T.map Test.s) self vars)=true):jK (xH (M.map Test.s) self vars)=true:=by
 obtain⟨l1,q1,q2,rfl⟩:=hT.lex;obtain⟨l3,p1,p2,rfl⟩:=hM.lex;rw[q1] at hl;injection hl with hl
 rw[p1] at hm;obtain⟨x,b,e1,_,e3⟩:=zU4 hm.symm;injection e1 with e1
 have:=zW4 (zR7 self vars) (l1:=l1) (l3:=l3) (b:=b) (by rw[e3,← e1,hl,List.append_assoc];rfl) (Prod.ext rfl q2) (Prod.ext rfl p2);simp only[zLC] at hp ⊢;rw[zIb (zFM self vars _)] at hp ⊢;exact this hp
structure BackP (s m:List Nat) (me:Val) (nl cl:Bool) (vars:List Bind) (T1:List Test) (A:List Nat) (T2:List Test):Prop where
 al:A.length≤65536
 text:Om CC 13 [.t (wL T1)] []=some (.val (.tup [.t (.str A),.t (.int .i64 0)]),[])
 read:∃p:Int×Int,Om CC 10 [.t (.str A)] []=some (.val (.tup [.t (wL T2),.t (.agg [.int .i64 p.1,.int .i64 p.2]),.t (.int .i64 0)]),[])
 text2:Om CC 13 [.t (wL T2)] []=some (.val (.tup [.t (.str A),.t (.int .i64 0)]),[])
 same:Om CC 14 [.t (wL T1),.t (wL T2)] []=some (.val (.t (.bool true)),[])
 may:Om CC 15 [.t (wL T1)] []=some (.val (.t (.bool true)),[])
 not_:∃(N:List Test) (p:Int×Int) (e:Int),Om CC 10 [.t (.str ([110,111,116,40]++A++[41]))] []=some (.val (.tup [.t (wL N),.t (.agg [.int .i64 p.1,.int .i64 p.2]),.t (.int .i64 e)]),[])∧(e=0→ReadOK vpF ([110,111,116,40]++A++[41]) N) ∧
  (e=0→jK (xH (N.map Test.s) me vars)=true→(xH (T1.map Test.s) me vars).e=0∧jK (xH (T1.map Test.s) me vars)=false)
 more:∃(M:List Test) (p:Int×Int) (e:Int),Om CC 10 [.t (.str (A++[44,32]++m))] []=some (.val (.tup [.t (wL M),.t (.agg [.int .i64 p.1,.int .i64 p.2]),.t (.int .i64 e)]),[])∧(e=0→ReadOK vpF (A++[44,32]++m) M) ∧
  (e=0→jK (xH (T1.map Test.s) me vars)=true→jK (xH (M.map Test.s) me vars)=true)
def zZq{s m:List Nat}(self:Val)(nl cl:Bool)(vars:List Bind)(hs:∀c ∈ s,c<256)(hm:∀c ∈ m,c<256)(ka:s.length≤300)(kb:m.length≤300){T1:List Test}(h:ReadOK vpF s T1):∃A T2,BackP s m self nl cl vars T1 A T2:=by
 obtain⟨L,u,hL,hu,hT⟩:=zNf (by omega) h;obtain⟨⟨w,w1,w2⟩,x1,x2,T0,r1,r2⟩:=zJL hs hL hu;have kc:u.tx.length≤65000:=by have:=hu.tl;omega
 have hA:u.tx.length≤65536:=by omega
 obtain⟨t1,t1r,t1p⟩:=zIh T1.isEmpty T1.isEmpty T1 (zHC hs hL hu hT);rw[zHw hs hL hu hT t1p] at t1r;obtain⟨T2,p,e,hr,hX,hY⟩:=zBu zFN zC5 u.tx x2 hA;have he:e=0:=Classical.byContradiction fun he=>(hY he).2 T0 r1
 subst he;have hS:=hX rfl;have hI:T2.map Test.s=(u.g []).1:=by rw[zGp r1 hS,r2]
 obtain⟨t2,t2r,t2p⟩:=zIh T2.isEmpty T2.isEmpty T2 (zHC hs hL hu hI);rw[zHw hs hL hu hI t2p] at t2r;have hC:=zIO T1.isEmpty T1.isEmpty T2.isEmpty T2.isEmpty T1 T2 (by have:=h.len;omega) (fun y hy=>(h.tok y hy).len);rw[(zGc T1 T2).2 (by rw[hT,hI])] at hC;have hP:=zRw (r:=(u.tx,0)) t1r;obtain⟨N,pn,en,n1,n2,n3⟩:=zBu zFN zC5 ([110,111,116,40]++u.tx++[41]) (by
  intro b hb;simp only[List.mem_append,List.mem_cons,List.not_mem_nil,or_false] at hb;rcases hb with (hb|hb)|rfl
  ·omega
  ·exact x2 b hb
  omega) (by simp only[List.length_append,List.length_cons,List.length_nil];omega)
 obtain⟨M,pm,em,m1,m2,m3⟩:=zBu zFN zC5 (u.tx++[44,32]++m) (by
  intro b hb;simp only[List.mem_append,List.mem_cons,List.not_mem_nil,or_false] at hb;rcases hb with (hb|rfl|rfl)|hb
  ·exact x2 b hb
  ·omega
  ·omega
  exact hm b hb) (by simp only[List.length_append,List.length_cons,List.length_nil];omega)
 have hZ:lexB vpF ([110,111,116,40]++u.tx++[41])=some (nmB [110,111,116]::sgB [40]::(w++[sgB [41]])):=by
  have q1:=w2.app (LY.one (vp:=vpF) (c:=41) (by decide) (by decide)).lx fun r _=>Sep.cons (by decide)
  have q2:=(LY.one (vp:=vpF) (c:=40) (by decide) (by decide)).app q1;have q3:=(zEP (vp:=vpF) [110,111,116] (by decide)).app q2 fun r _=>Sep.cons (by decide)
  have:=q3.lex
  simpa only [List.append_assoc,List.nil_append,List.cons_append] using this
 have h7:lexB vpF (u.tx++[44,32]++m)=andL (some (w++[comma])) (lexB vpF m):=by
  rw[List.append_assoc]
  show lexB vpF (u.tx++44::32::m)=_
  rw[w2 _ (Sep.cons (by decide)),zKw]
  congr 1
  show lexB vpF (44::32::m)=_
  rw[zKO vpF (by decide) (no2 (by decide)),zQ0];rfl
 refine⟨u.tx,T2,hA,t1r,⟨p,hr⟩,t2r,hC,hP,⟨N,pn,en,n1,n2,fun h0 hp=>?_⟩,⟨M,pm,em,m1,m2,fun h0 hp=>?_⟩⟩
 ·exact zVc self vars w1 hu.isT hu.wf hu.nd hT hZ (n2 h0) hp
 exact zT7 self vars hS w2.lex h7 (m2 h0) (by rw[hI,← hT];exact hp)
def xbC:=c5 zF zG zP zE (c5 zC zB zAg zO (c5 zK zR yV zAh (c5 zM yR zI zPh (c5 zGw zBh zJD zES (c3 zJl zLY zDe)))))
def zVj (s m:List Nat) (self:Val) (nl cl:Bool) (vars:List Bind) (hh:∀b ∈ s,b<256) (ho:∀b ∈ m,b<256)
  (hn:R64 self.n) (hv:∀b ∈ vars,R64 b.v.n) (hc:vars.length<9223372036854775808) :
  Om CC 5 [.t (.str s),.t (.str m),.t (.agg [.int .u8 self.k,.int .i64 self.n,.str self.s]),.t (.sl nl cl (vars.map Bind.c))] []=some (.val (.t (.bool true)),[]):=by
 refine zL yIm rfl ?_;have h8:=zQG
 by_cases h1:300<s.length
 ·have hU:decide ((s.length:Int) > 300)=true:=by simp;omega
  clear hh ho hn hv hc h1;obtain⟨sk,sn,ss⟩:=self
  (have F_:=xbC;show W CC 0 178 (zA 5) _ ⟨[(0,_),(1,_),(2,_),(3,_)],[]⟩ _)
  (refine gA ?_)
  all_goals refine aK ?_ ?_<;>(first|rfl)
 have hU:decide ((s.length:Int) > 300)=false:=by simp;omega
 by_cases h2:300<m.length
 ·have hJ:decide ((m.length:Int) > 300)=true:=by simp;omega
  clear hh ho hn hv hc h1 h2;obtain⟨sk,sn,ss⟩:=self
  (have F_:=xbC;show W CC 0 178 (zA 5) _ ⟨[(0,_),(1,_),(2,_),(3,_)],[]⟩ _)
  (refine gA ?_)
  all_goals refine aK ?_ ?_<;>(first|rfl)
 have hJ:decide ((m.length:Int) > 300)=false:=by simp;omega
 have hG:(vars.map Bind.c).length=vars.length:=List.length_map ..
 by_cases h3:40<vars.length
 ·have hW:decide ((vars.length:Int) > 40)=true:=by simp;omega
  clear hh ho hn hv hc h1 h2 h3;obtain⟨sk,sn,ss⟩:=self;generalize vars.map Bind.c=V at *
  (have F_:=xbC;show W CC 0 178 (zA 5) _ ⟨[(0,_),(1,_),(2,_),(3,_)],[]⟩ _)
  (refine gA ?_)
  all_goals refine aK ?_ ?_<;>(first|rfl)
 have hW:decide ((vars.length:Int) > 40)=false:=by simp;omega
 by_cases h4:300<self.s.length
 ·have hO:decide (((self.s.length:Nat):Int) > 300)=true:=by simp;omega
  clear hh ho hn hv hc h1 h2 h3 h4;obtain⟨sk,sn,ss⟩:=self;generalize vars.map Bind.c=V at *;dsimp only at hO
  (have F_:=xbC;show W CC 0 178 (zA 5) _ ⟨[(0,_),(1,_),(2,_),(3,_)],[]⟩ _)
  (refine gA ?_)
  all_goals refine aK ?_ ?_<;>(first|rfl)
 have hO:decide (((self.s.length:Nat):Int) > 300)=false:=by simp;omega
 have hx:Hid _:=⟨And.intro hh (And.intro ho (And.intro hn (And.intro hv (And.intro hc (And.intro h1 (And.intro h2 (And.intro h3 h4)))))))⟩
 clear hh ho hn hv hc h1 h2 h3 h4;obtain⟨sk,sn,ss⟩:=self;dsimp only at hO;generalize hV:vars.map Bind.c=V at *
 (have F_:=xbC;show W CC 0 178 (zA 5) _ ⟨[(0,_),(1,_),(2,_),(3,_)],[]⟩ _)
 (refine gA ?_)
 clear hU hJ hW hO;refine yE (α:=Nat) (fun i=>⟨[(0,.t (.str s)),(1,.t (.str m)),(3,.t (.sl nl cl V)),(6,.box 0 0),(50,.t (.int .i64 (vars.length:Int))),(51,.t (.int .i64 (i:Int)))],[.box [.t (.int .u8 sk),.t (.int .i64 sn),.t (.str ss)]]⟩) (fun i=>vars.length - i) (fun i=>i≤vars.length∧∀j (h:j<vars.length),j<i→vars[j].v.s.length≤300) 0 (by rw[← hG];exact aTd) ⟨Nat.zero_le _,fun j h h'=>absurd h' (Nat.not_lt_zero _)⟩ ?_;rintro i ⟨hi,hE⟩;have hE:=Hid.mk hE
 by_cases hH:i<vars.length
 ·have hw:=wI64 i (by have:=hx.h.2.2.2.2.1;omega);have he:V[i]?=some vars[i].c:=by rw[← hV,List.getElem?_map,List.getElem?_eq_getElem hH];rfl
  have hd:decide ((i:Int)<(vars.length:Int))=true:=by simpa using hH
  have hQ:Hid _:=⟨fun(h:vars[i].v.s.length≤300) j (h1:j<vars.length) (h2:j<i+1)=>(show vars[j].v.s.length≤300 by rcases Nat.lt_or_ge j i with h3|h3;exact hE.h j h1 h3;(have:j=i:=by omega);subst this;exact h)⟩
  generalize vars[i]=b at he hQ;obtain⟨bn,⟨bk,bn2,bs⟩⟩:=b;simp only[Bind.c] at he;dsimp only at hQ
  by_cases hb:300<bs.length
  ·have hJ:decide (((bs.length:Nat):Int) > 300)=true:=by simp;omega
   clear hb hV hG
   (refine gA ?_)
   all_goals refine aK ?_ ?_<;>(rfl)
  have hJ:decide (((bs.length:Nat):Int) > 300)=false:=by simp;omega
  have h9:Hid _:=⟨hb⟩
  clear hb h8 hV hG
  (refine gA ?_)
  exact zD (i+1) (by omega) ⟨by omega,hQ.h (by have:=h9.h;omega)⟩ (by exact aTd)
 have hd:decide ((i:Int)<(vars.length:Int))=false:=by simpa using hH
 have hD:∀b ∈ vars,b.v.s.length≤300:=fun b hb=>by
  obtain⟨j,hj,rfl⟩:=List.getElem_of_mem hb;exact hE.h j hj (by omega)
 obtain⟨hh,ho,hn,hv,hc,q1,q2,q3,q4⟩:=hx.h;have hF:VOK ⟨sk,sn,ss⟩:=⟨hn,by dsimp only at q4 ⊢;omega⟩
 have hf:∀b ∈ vars,VOK b.v:=fun b hb=>⟨hv b hb,by have:=hD b hb;omega⟩
 obtain⟨T1,p1,e1,r1,k1,k1'⟩:=zBu zFN zC5 s hh (by omega)
 by_cases z1:e1=0
 ·subst z1;have hR:=k1 rfl;obtain⟨A,T2,B⟩:=zZq (m:=m) ⟨sk,sn,ss⟩ nl cl vars hh ho (by omega) (by omega) hR;obtain⟨p2,r2⟩:=B.read;obtain⟨N,pn,en,rn,okn,lawn⟩:=B.not_;obtain⟨M,pm,em,rm,okm,lawm⟩:=B.more;have t1:=B.text;have t2:=B.text2;have sm:=B.same;have my:=B.may;have al:=B.al;have d1:=zKR T1.isEmpty T1.isEmpty T1 ⟨sk,sn,ss⟩ nl cl vars hR.len hR.tok hF hf hc;have c1:=zFX T1.isEmpty T1.isEmpty T1 ⟨sk,sn,ss⟩ nl cl vars hR.len hR.tok hF hf hc;have dn:Hid _:=⟨fun h=>zKR N.isEmpty N.isEmpty N ⟨sk,sn,ss⟩ nl cl vars (okn h).len (okn h).tok hF hf hc⟩
  have dm:Hid _:=⟨fun h=>zKR M.isEmpty M.isEmpty M ⟨sk,sn,ss⟩ nl cl vars (okm h).len (okm h).tok hF hf hc⟩
  have sa1:binop Tryz.prog .add 9 (.t (.str [110,111,116,40])) (.t (.str A))=some (.t (.str ([110,111,116,40]++A))):=yD (by simp;omega);have sa2:binop Tryz.prog .add 9 (.t (.str ([110,111,116,40]++A))) (.t (.str [41]))=some (.t (.str ([110,111,116,40]++A++[41]))):=yD (by simp;omega);have sa3:binop Tryz.prog .add 9 (.t (.str A)) (.t (.str [44,32]))=some (.t (.str (A++[44,32]))):=yD (by simp;omega);have sa4:binop Tryz.prog .add 9 (.t (.str (A++[44,32]))) (.t (.str m))=some (.t (.str (A++[44,32]++m))):=yD (by simp;omega);have aa:beqL A A=true:=by rw[wV];simp
  have lawn:=Hid.mk lawn;have lawm:=Hid.mk lawm;simp only[wL] at r1 r2 rn rm t1 t2 sm my;dsimp only at d1 c1 dn dm;rw[hV] at d1 c1 dn dm;clear B al hR okn okm k1 k1' hh ho hn hv hc q1 q2 q3 q4 hF hf hD hE hx hV hG hi hH;generalize [110,111,116,40]++A++[41]=S1 at *;generalize [110,111,116,40]++A=S2 at *;generalize A++[44,32]++m=S3 at *;generalize A++[44,32]=S4 at *;generalize xH (T1.map Test.s) ⟨sk,sn,ss⟩ vars=R1 at *;generalize xH (N.map Test.s) ⟨sk,sn,ss⟩ vars=RN at *;generalize xH (M.map Test.s) ⟨sk,sn,ss⟩ vars=RM at *;generalize T1.isEmpty=n1 at *;generalize T2.isEmpty=n2 at *;generalize N.isEmpty=n3 at *;generalize M.isEmpty=n4 at *;generalize T1.map Test.c=l1 at *;generalize T2.map Test.c=l2 at *;generalize N.map Test.c=l3 at *;generalize M.map Test.c=l4 at *;generalize jK R1=P1 at *;generalize jK RN=PN at *;generalize jK RM=PM at *;obtain⟨⟨rk,rn1,rs⟩,re⟩:=R1;dsimp only at c1 lawn;have fin:∀(x:Bool) (y:Bool),x=y→x=y:=fun _ _ h=>h
  by_cases zn:en=0
  ·subst zn;have dn:=dn.h rfl;have ln:=lawn.h rfl;clear lawn
   by_cases zm:em=0
   ·subst zm;have dm:=dm.h rfl;have lm:=lawm.h rfl;clear lawm;cases PN with
    |true =>
     obtain⟨rfl,rfl⟩:=ln rfl;clear ln lm
     (refine gA ?_)
     all_goals refine aK ?_ ?_<;>(rfl)
    |false =>
     clear ln;cases P1 with
     |true =>
      obtain rfl:=lm rfl;clear lm
      (refine gA ?_)
      all_goals refine aK ?_ ?_<;>(rfl)
     |false =>
      clear lm
      (refine gA ?_)
      all_goals refine aK ?_ ?_<;>(rfl)
   have zm1:(em != 0)=true:=by simpa using zm
   clear lawm dm zm;cases PN with
   |true =>
    obtain⟨rfl,rfl⟩:=ln rfl;clear ln
    (refine gA ?_)
    all_goals refine aK ?_ ?_<;>(rfl)
   |false =>
    clear ln
    (refine gA ?_)
    all_goals refine aK ?_ ?_<;>(rfl)
  have zn1:(en==0)=false:=by simpa using zn
  clear lawn dn zn
  by_cases zm:em=0
  ·subst zm;have dm:=dm.h rfl;have lm:=lawm.h rfl;clear lawm;cases P1 with
   |true =>
    obtain rfl:=lm rfl;clear lm
    (refine gA ?_)
    all_goals refine aK ?_ ?_<;>(rfl)
   |false =>
    clear lm
    (refine gA ?_)
    all_goals refine aK ?_ ?_<;>(rfl)
  have zm1:(em != 0)=true:=by simpa using zm
  clear lawm dm zm
  (refine gA ?_)
  all_goals refine aK ?_ ?_<;>(rfl)
 have z1':(e1 != 0)=true:=by simpa using z1
 obtain⟨rfl,_⟩:=k1' z1;simp only[wL] at r1;clear k1 k1' hh ho hn hv hc q1 q2 q3 q4 hF hf hD hE hx hV hG hi hH z1
 (repeat' first|refine gA ?_|refine gT ?_ ?_<;>intro hv<;>try cases hv;done|fail)
 all_goals refine aK ?_ ?_<;>(rfl)
end Go.Ab
