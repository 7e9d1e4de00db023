/- Lemmas. -/
import Derived.Test.YtdbfacakphncfaaGreatDoorG14
import Derived.Test.YtdbfacakphncfaaGreatDoorG20
import Derived.Test.YtdbfacakphncfaaGreatDoorG22
import Derived.Test.YtdbfacakphncfaaGreatDoorG21
set_option maxRecDepth 1000000
set_option maxHeartbeats 4000000
set_option linter.unusedSimpArgs false
set_option linter.unusedVariables false
namespace Go.Ab
open Go.Proofs
theorem zOP{l:List Tok}{L:List Node}(hl:l.length≤65536)(h1:L.length≤60)(h2:∀y ∈ L,NOK l y):XOK (slX L):=by
 refine⟨?_,?_,?_,?_⟩
 ·cases L with
  |nil=>intro _;rfl
  |cons a r=>intro h;cases h
 ·rw[zJn];omega
 ·rw[zJn];intro x hx;have:=(h2 x hx).2;omega
 rw[zJn];intro x hx;exact(h2 x hx).1
theorem zYk{l:List Tok}{x:Test}(hl:l.length≤65536)(h:TNK l x):TOK x:=by
 obtain⟨⟨A,ha,ha1,ha2⟩,⟨B,hb,hb1,hb2⟩,hk⟩:=h;exact⟨ha ▸ zOP hl ha1 ha2,hb ▸ zOP hl hb1 hb2,by omega⟩
structure ReadOK (vp:List Nat→Val×Int) (s:List Nat) (T:List Test):Prop where
 lex:∃L:List Tok,lexB vp s=some (L.map Tok.b)∧(xW L 0).2=(L.length,0)∧T=(xW L 0).1
 len:T.length<4294967000
 tok:∀x ∈ T,TOK x
theorem zIP {vp:List Nat→Val×Int} (hvp:VPH vp) (hv:∀x,VB (vp x).1) (s:List Nat) (hb:∀b ∈ s,b<256) (hs:s.length≤65536) :
  ∃(T:List Test) (p:Int×Int) (e:Int),Om CC 10 [.t (.str s)] []=some (.val (.tup [.t (zBz T),.t (.agg [.int .i64 p.1,.int .i64 p.2]),.t (.int .i64 e)]),[])∧(e=0→ReadOK vp s T):=by
 obtain⟨L,e0,hL,p,hr,-⟩:=zT9 hvp s hb hs (fun L h=>by have:=(zOg hv h).2;omega);refine⟨_,p,_,hr,fun he=>?_⟩;have e00:e0=0:=Classical.byContradiction fun h=>by rw[if_neg h] at he;exact h he
 rw[if_pos e00] at he ⊢;have hlex:lexB vp s=some (L.map Tok.b):=by
  rcases hL with h|h
  ·exact h.2
  exact absurd e00 h.1
 obtain⟨h1,h2⟩:=zOg hv hlex;unfold zMd at he ⊢;have h3:(xW L 0).2.2=0:=Classical.byContradiction fun h=>by rw[if_neg h] at he;exact h he
 rw[if_pos h3] at he ⊢;have h4:¬ (xW L 0).2.1<L.length:=fun h=>by rw[if_pos h] at he;cases he
 rw[if_neg h4];obtain⟨n1,n2⟩:=zPi h1 h3;refine⟨⟨L,hlex,?_,rfl⟩,by dsimp only;omega,fun x hx=>zYk (by omega) (n1 x hx)⟩;obtain⟨f,k,n,hu,_⟩:=zHr (l:=L) (Nat.zero_le _) h3;have hk:=yU _ _ _ _ _ _ hu (Nat.zero_le _);have:(xW L 0).2.1≤L.length:=hk.2.2.1;exact Prod.ext (by show (xW L 0).2.1=L.length;omega) h3
theorem zS1(self:Val)(nl cl:Bool)(l:List Bind)(hl:l.length<9223372036854775808):∃x:Bool,Om CC 7 [.t (.agg [.int .u8 self.k,.int .i64 self.n,.str self.s]),.t (.sl nl cl (l.map Bind.c))] []=some (.val (.t (.bool x)),[]) ∧
  (x=false→l.length≤40∧self.s.length≤300∧∀b ∈ l,b.v.s.length≤300):=by
 refine zN yDh rfl ?_;obtain⟨sk,sn,ss⟩:=self;have hl2:Hid _:=⟨hl⟩
 clear hl
 (have F_:=c5 zK zO zL zI (c3 zH zAg (c2 zAb yEq));show W CC 0 29 (zE 7) _ ⟨[(0,_),(1,_)],[]⟩ _)
 (with_reducible repeat' first|apply aA|refine aB ?_|refine aC ?_|refine aD ?_|(first|apply zB|apply zA|apply zC|apply zD)<;>intro hg<;>try with_unfolding_all cases hg;done|refine aE ?_|refine aF ?_|refine aG ?_|refine aH ?_ ?_<;>intro hv<;>try with_unfolding_all cases hv;done)
 refine yS (α:=Nat) (fun i=>⟨[(1,.t (.sl nl cl (l.map Bind.c))),(2,.box 0 0),(7,.t (.int .i64 l.length)),(8,.t (.int .i64 i))],[.box [.t (.int .u8 sk),.t (.int .i64 sn),.t (.str ss)]]⟩) (fun i=>l.length - i) (fun i=>i≤l.length∧∀j (h:j<l.length),j<i→l[j].v.s.length≤300) 0 (by kernel_rfl) ⟨Nat.zero_le _,fun j h h2=>absurd h2 (Nat.not_lt_zero _)⟩ ?_;rintro i ⟨hi,hall⟩;have hall2:Hid _:=⟨hall⟩
 clear hall
 by_cases hi':i<l.length
 ·have hw:IntKind.i64.wrap ((i:Int)+1)=((i+1:Nat):Int):=by have:=hl2.h;rw[wrap64]<;>omega
  have he:l[i]?=some l[i]:=List.getElem?_eq_getElem hi';have hd:decide ((i:Int)<l.length)=true:=by simpa using hi'
  have hgi:Hid _:=⟨fun(h:l[i].v.s.length≤300) j (h1:j<l.length) (h2:j<i+1)=>(show l[j].v.s.length≤300 by rcases Nat.lt_or_ge j i with h3|h3;exact hall2.h j h1 h3;(have:j=i:=by omega);subst this;exact h)⟩
  generalize l[i]=b at he hgi
  by_cases hb:300<b.v.s.length
  ·have hd2:decide ((b.v.s.length:Int) > 300)=true:=by simp;omega
   clear hb
   (with_reducible repeat' first|apply aA|refine aB ?_|refine aC ?_|refine aD ?_|(first|apply zB|apply zA|apply zC|apply zD)<;>intro hg<;>try with_unfolding_all cases hg;done|refine aE ?_|refine aF ?_|refine aG ?_|refine aH ?_ ?_<;>intro hv<;>try with_unfolding_all cases hv;done)
   all_goals refine aJ ?_
   all_goals exact⟨true,⟨rfl,rfl⟩,fun h=>by cases h⟩
  have hd2:decide ((b.v.s.length:Int) > 300)=false:=by simp;omega
  have hb2:Hid _:=⟨hb⟩
  clear hb
  (with_reducible repeat' first|apply aA|refine aB ?_|refine aC ?_|refine aD ?_|(first|apply zB|apply zA|apply zC|apply zD)<;>intro hg<;>try with_unfolding_all cases hg;done|refine aE ?_|refine aF ?_|refine aG ?_|refine aH ?_ ?_<;>intro hv<;>try with_unfolding_all cases hv;done)
  exact zM (i+1) (by omega) ⟨by omega,hgi.h (by have:=hb2.h;omega)⟩ (by kernel_rfl)
 have hd:decide ((i:Int)<l.length)=false:=by simpa using hi'
 have hfin:Hid (∀b ∈ l,b.v.s.length≤300):=⟨fun b hb=>by
  obtain⟨j,hj,rfl⟩:=List.getElem_of_mem hb;exact hall2.h j hj (by omega)⟩
 by_cases h1:40<l.length
 ·have hd2:decide ((l.length:Int) > 40)=true:=by simp;omega
  clear h1
  (with_reducible repeat' first|apply aA|refine aB ?_|refine aC ?_|refine aD ?_|(first|apply zB|apply zA|apply zC|apply zD)<;>intro hg<;>try with_unfolding_all cases hg;done|refine aE ?_|refine aF ?_|refine aG ?_|refine aH ?_ ?_<;>intro hv<;>try with_unfolding_all cases hv;done)
  all_goals refine aJ ?_
  all_goals exact⟨true,⟨rfl,rfl⟩,fun h=>by cases h⟩
 have hd2:decide ((l.length:Int) > 40)=false:=by simp;omega
 by_cases h2:300<ss.length
 ·have hd3:decide ((ss.length:Int) > 300)=true:=by simp;omega
  clear h1 h2
  (with_reducible repeat' first|apply aA|refine aB ?_|refine aC ?_|refine aD ?_|(first|apply zB|apply zA|apply zC|apply zD)<;>intro hg<;>try with_unfolding_all cases hg;done|refine aE ?_|refine aF ?_|refine aG ?_|refine aH ?_ ?_<;>intro hv<;>try with_unfolding_all cases hv;done)
  all_goals refine aJ ?_
  all_goals exact⟨true,⟨rfl,rfl⟩,fun h=>by cases h⟩
 have hd3:decide ((ss.length:Int) > 300)=false:=by simp;omega
 have h12:Hid (l.length≤40∧ss.length≤300):=⟨by omega,by omega⟩
 clear h1 h2
 (with_reducible repeat' first|apply aA|refine aB ?_|refine aC ?_|refine aD ?_|(first|apply zB|apply zA|apply zC|apply zD)<;>intro hg<;>try with_unfolding_all cases hg;done|refine aE ?_|refine aF ?_|refine aG ?_|refine aH ?_ ?_<;>intro hv<;>try with_unfolding_all cases hv;done)
 all_goals refine aJ ?_
 all_goals exact⟨false,⟨rfl,rfl⟩,fun _=>⟨h12.h.1,h12.h.2,hfin.h⟩⟩
theorem zG0{a:Ans}(h:TB a):zBQ a=true↔zAR a:=by
 unfold zBQ zAR;simp only[Bool.and_eq_true,beq_iff_eq];refine⟨fun⟨h1,h2,h3⟩=>⟨h1,?_⟩,fun⟨h1,h2⟩=>⟨h1,by rw[h2];rfl,by rw[h2];rfl⟩⟩;rcases h.2 with h'|h'|h'|h'
 ·exact absurd h1 h'
 ·exact h'
 ·rw[h'] at h3;cases h3
 rw[h'] at h2;cases h2
theorem zHh(self:Val)(vars:List Bind)(ts:List STst):TB (zBa (SemA self vars) ts):=by
 unfold zBa zDe;cases hl:(xZ (SemA self vars) ts ts.length).getLast? with
 |none=>exact⟨jV,.inl (by decide)⟩
 |some a=>exact zEm (zUp self vars) ts _ a (List.mem_of_getLast? hl)
theorem zO9 {vp:List Nat→Val×Int} (self:Val) (vars:List Bind) {s m:List Nat} {T1 T2 T3:List Test} (h1:ReadOK vp s T1) (h2:ReadOK vp m T2) (h3:ReadOK vp (s++[10,44,32]++m) T3) :
  zBQ (qH (T3.map Test.s) self vars)=(zBQ (qH (T1.map Test.s) self vars)||((qH (T1.map Test.s) self vars).e==0&&zBQ (qH (T2.map Test.s) self vars))):=by
 obtain⟨L1,a1,b1,rfl⟩:=h1.lex;obtain⟨L2,a2,b2,rfl⟩:=h2.lex;obtain⟨L3,a3,b3,rfl⟩:=h3.lex;have hl:=zSA (zUp self vars) (zSn vp a1 a2 a3) b1 b2 b3;simp only[zPm];rw[Bool.eq_iff_iff,zG0 (zHh self vars _),hl,Bool.or_eq_true,Bool.and_eq_true,zG0 (zHh self vars _),zG0 (zHh self vars _),beq_iff_eq]
theorem zPo {vp:List Nat→Val×Int} (hvp:VPH vp) (hvv:∀x,VB (vp x).1) (s m:List Nat) (self:Val) (nl cl:Bool) (vars:List Bind) (hsb:∀b ∈ s,b<256) (hmb:∀b ∈ m,b<256)
  (hn:R64 self.n) (hv:∀b ∈ vars,R64 b.v.n) (hvl:vars.length<9223372036854775808) :
  Om CC 4 [.t (.str s),.t (.str m),.t (.agg [.int .u8 self.k,.int .i64 self.n,.str self.s]),.t (.sl nl cl (vars.map Bind.c))] []=some (.val (.t (.bool true)),[]):=by
 refine zV yDJ rfl ?_;have hkn:=zXj;obtain⟨lo,hlo,hlof⟩:=zS1 self nl cl vars hvl
 by_cases h1:300<s.length
 ·have hd1:decide ((s.length:Int) > 300)=true:=by simp;omega
  clear hvp hvv hsb hmb hn hv hvl hlo hlof h1;obtain⟨sk,sn,ss⟩:=self
  (have F_:=c5 zK zO zR zL (c5 zI zH zAg yA (c5 zS yB xX zAb (c5 zY xP zQ zED (c5 zEn zEq zCx zBL zCJ))));show W CC 0 95 (zE 4) _ ⟨[(0,_),(1,_),(2,_),(3,_)],[]⟩ _)
  (with_reducible repeat' first|apply aA|refine aB ?_|refine aC ?_|refine aD ?_|(first|apply zB|apply zA|apply zC|apply zD)<;>intro hg<;>try with_unfolding_all cases hg;done|refine aE ?_|refine aF ?_|refine aG ?_|refine aH ?_ ?_<;>intro hv<;>try with_unfolding_all cases hv;done)
  all_goals refine aK ?_ ?_
  all_goals first|rfl
 have hd1:decide ((s.length:Int) > 300)=false:=by simp;omega
 by_cases h2:300<m.length
 ·have hd2:decide ((m.length:Int) > 300)=true:=by simp;omega
  clear hvp hvv hsb hmb hn hv hvl hlo hlof h1 h2;obtain⟨sk,sn,ss⟩:=self
  (have F_:=c5 zK zO zR zL (c5 zI zH zAg yA (c5 zS yB xX zAb (c5 zY xP zQ zED (c5 zEn zEq zCx zBL zCJ))));show W CC 0 95 (zE 4) _ ⟨[(0,_),(1,_),(2,_),(3,_)],[]⟩ _)
  (with_reducible repeat' first|apply aA|refine aB ?_|refine aC ?_|refine aD ?_|(first|apply zB|apply zA|apply zC|apply zD)<;>intro hg<;>try with_unfolding_all cases hg;done|refine aE ?_|refine aF ?_|refine aG ?_|refine aH ?_ ?_<;>intro hv<;>try with_unfolding_all cases hv;done)
  all_goals refine aK ?_ ?_
  all_goals first|rfl
 have hd2:decide ((m.length:Int) > 300)=false:=by simp;omega
 cases lo with
 |true =>
  clear hvp hvv hsb hmb hn hv hvl hlof h1 h2;obtain⟨sk,sn,ss⟩:=self
  (have F_:=c5 zK zO zR zL (c5 zI zH zAg yA (c5 zS yB xX zAb (c5 zY xP zQ zED (c5 zEn zEq zCx zBL zCJ))));show W CC 0 95 (zE 4) _ ⟨[(0,_),(1,_),(2,_),(3,_)],[]⟩ _)
  (with_reducible repeat' first|apply aA|refine aB ?_|refine aC ?_|refine aD ?_|(first|apply zB|apply zA|apply zC|apply zD)<;>intro hg<;>try with_unfolding_all cases hg;done|refine aE ?_|refine aF ?_|refine aG ?_|refine aH ?_ ?_<;>intro hv<;>try with_unfolding_all cases hv;done)
  all_goals refine aK ?_ ?_
  all_goals first|rfl
 |false =>
  obtain⟨q1,q2,q3⟩:=hlof rfl;have hsv:VOK self:=⟨hn,by omega⟩
  have hvv2:∀b ∈ vars,VOK b.v:=fun b hb=>⟨hv b hb,by have:=q3 b hb;omega⟩
  obtain⟨T1,p1,e1,r1,k1⟩:=zIP hvp hvv s hsb (by omega);obtain⟨T2,p2,e2,r2,k2⟩:=zIP hvp hvv m hmb (by omega);obtain⟨T3,p3,e3,r3,k3⟩:=zIP hvp hvv (s++[10,44,32]++m) (by
   intro b hb;simp only[List.mem_append,List.mem_cons,List.not_mem_nil,or_false] at hb;rcases hb with (hb|rfl|rfl|rfl)|hb
   ·exact hsb b hb
   ·omega
   ·omega
   ·omega
   exact hmb b hb) (by simp only[List.length_append,List.length_cons,List.length_nil];omega)
  have sa1:binop Tryz.prog .add 9 (.t (.str s)) (.t (.str [10,44,32]))=some (.t (.str (s++[10,44,32]))):=uH (by simp;omega);have sa2:binop Tryz.prog .add 9 (.t (.str (s++[10,44,32]))) (.t (.str m))=some (.t (.str (s++[10,44,32]++m))):=uH (by simp;omega);simp only[zBz] at r1 r2 r3;have a1:Hid _:=⟨k1⟩
  have a2:Hid _:=⟨k2⟩
  have a3:Hid _:=⟨k3⟩
  clear k1 k2 k3 hvp hsb hmb h1 h2 hlof hn hv q1 q2 q3 hvv;have c1:Hid _:=⟨fun(h:e1=0)=>zLb T1.isEmpty T1.isEmpty T1 self nl cl vars (a1.h h).len (a1.h h).tok hsv hvv2 hvl⟩
  have d1:Hid _:=⟨fun(h:e1=0)=>zIX T1.isEmpty T1.isEmpty T1 self nl cl vars (a1.h h).len (a1.h h).tok hsv hvv2 hvl⟩
  have d2:Hid _:=⟨fun(h:e2=0)=>zIX T2.isEmpty T2.isEmpty T2 self nl cl vars (a2.h h).len (a2.h h).tok hsv hvv2 hvl⟩
  have d3:Hid _:=⟨fun(h:e3=0)=>zIX T3.isEmpty T3.isEmpty T3 self nl cl vars (a3.h h).len (a3.h h).tok hsv hvv2 hvl⟩
  have law:Hid _:=⟨fun(h1:e1=0) (h2:e2=0) (h3:e3=0)=>zO9 self vars (a1.h h1) (a2.h h2) (a3.h h3)⟩
  clear a1 a2 a3 hsv hvv2 hvl;generalize qH (T1.map Test.s) self vars=R1 at c1 d1 law;generalize qH (T2.map Test.s) self vars=R2 at d2 law;generalize qH (T3.map Test.s) self vars=R3 at d3 law;generalize T1.isEmpty=n1 at r1 c1 d1;generalize T2.isEmpty=n2 at r2 d2;generalize T3.isEmpty=n3 at r3 d3;generalize T1.map Test.c=l1 at r1 c1 d1;generalize T2.map Test.c=l2 at r2 d2;generalize T3.map Test.c=l3 at r3 d3;generalize zBQ R1=P1 at d1 law;generalize zBQ R2=P2 at d2 law;generalize zBQ R3=P3 at d3 law;obtain⟨sk,sn,ss⟩:=self;obtain⟨⟨rk,rn,rs⟩,re⟩:=R1
  by_cases z1:e1=0
  ·subst z1
   by_cases z2:e2=0
   ·subst z2
    by_cases z3:e3=0
    ·subst z3;have c1:=c1.h rfl;have d1:=d1.h rfl;have d2:=d2.h rfl;have d3:=d3.h rfl;have lw:=law.h rfl rfl rfl;clear law;dsimp only at c1 lw;cases he:(re==0) with
     |true =>
      rw[he] at lw;cases P1 with
      |true =>
       obtain rfl:P3=true:=lw
       (have F_:=c5 zK zO zR zL (c5 zI zH zAg yA (c5 zS yB xX zAb (c5 zY xP zQ zED (c5 zEn zEq zCx zBL zCJ))));show W CC 0 95 (zE 4) _ ⟨[(0,_),(1,_),(2,_),(3,_)],[]⟩ _)
       (with_reducible repeat' first|apply aA|refine aB ?_|refine aC ?_|refine aD ?_|(first|apply zB|apply zA|apply zC|apply zD)<;>intro hg<;>try with_unfolding_all cases hg;done|refine aE ?_|refine aF ?_|refine aG ?_|refine aH ?_ ?_<;>intro hv<;>try with_unfolding_all cases hv;done)
       all_goals refine aK ?_ ?_
       all_goals first|rfl
      |false =>
       obtain rfl:P3=P2:=lw;cases P3 with
       |true =>
        (have F_:=c5 zK zO zR zL (c5 zI zH zAg yA (c5 zS yB xX zAb (c5 zY xP zQ zED (c5 zEn zEq zCx zBL zCJ))));show W CC 0 95 (zE 4) _ ⟨[(0,_),(1,_),(2,_),(3,_)],[]⟩ _)
        (with_reducible repeat' first|apply aA|refine aB ?_|refine aC ?_|refine aD ?_|(first|apply zB|apply zA|apply zC|apply zD)<;>intro hg<;>try with_unfolding_all cases hg;done|refine aE ?_|refine aF ?_|refine aG ?_|refine aH ?_ ?_<;>intro hv<;>try with_unfolding_all cases hv;done)
        all_goals refine aK ?_ ?_
        all_goals first|rfl
       |false =>
        (have F_:=c5 zK zO zR zL (c5 zI zH zAg yA (c5 zS yB xX zAb (c5 zY xP zQ zED (c5 zEn zEq zCx zBL zCJ))));show W CC 0 95 (zE 4) _ ⟨[(0,_),(1,_),(2,_),(3,_)],[]⟩ _)
        (with_reducible repeat' first|apply aA|refine aB ?_|refine aC ?_|refine aD ?_|(first|apply zB|apply zA|apply zC|apply zD)<;>intro hg<;>try with_unfolding_all cases hg;done|refine aE ?_|refine aF ?_|refine aG ?_|refine aH ?_ ?_<;>intro hv<;>try with_unfolding_all cases hv;done)
        all_goals refine aK ?_ ?_
        all_goals first|rfl
     |false =>
      rw[he] at lw;cases P1 with
      |true =>
       obtain rfl:P3=true:=lw
       (have F_:=c5 zK zO zR zL (c5 zI zH zAg yA (c5 zS yB xX zAb (c5 zY xP zQ zED (c5 zEn zEq zCx zBL zCJ))));show W CC 0 95 (zE 4) _ ⟨[(0,_),(1,_),(2,_),(3,_)],[]⟩ _)
       (with_reducible repeat' first|apply aA|refine aB ?_|refine aC ?_|refine aD ?_|(first|apply zB|apply zA|apply zC|apply zD)<;>intro hg<;>try with_unfolding_all cases hg;done|refine aE ?_|refine aF ?_|refine aG ?_|refine aH ?_ ?_<;>intro hv<;>try with_unfolding_all cases hv;done)
       all_goals refine aK ?_ ?_
       all_goals first|rfl
      |false =>
       obtain rfl:P3=false:=lw
       (have F_:=c5 zK zO zR zL (c5 zI zH zAg yA (c5 zS yB xX zAb (c5 zY xP zQ zED (c5 zEn zEq zCx zBL zCJ))));show W CC 0 95 (zE 4) _ ⟨[(0,_),(1,_),(2,_),(3,_)],[]⟩ _)
       (with_reducible repeat' first|apply aA|refine aB ?_|refine aC ?_|refine aD ?_|(first|apply zB|apply zA|apply zC|apply zD)<;>intro hg<;>try with_unfolding_all cases hg;done|refine aE ?_|refine aF ?_|refine aG ?_|refine aH ?_ ?_<;>intro hv<;>try with_unfolding_all cases hv;done)
       all_goals refine aK ?_ ?_
       all_goals first|rfl
    have y3:(e3 != 0)=true:=by simpa using z3
    have z3:(e3==0)=false:=by simpa using z3
    clear c1 d1 d2 d3 law
    (have F_:=c5 zK zO zR zL (c5 zI zH zAg yA (c5 zS yB xX zAb (c5 zY xP zQ zED (c5 zEn zEq zCx zBL zCJ))));show W CC 0 95 (zE 4) _ ⟨[(0,_),(1,_),(2,_),(3,_)],[]⟩ _)
    (with_reducible repeat' first|apply aA|refine aB ?_|refine aC ?_|refine aD ?_|(first|apply zB|apply zA|apply zC|apply zD)<;>intro hg<;>try with_unfolding_all cases hg;done|refine aE ?_|refine aF ?_|refine aG ?_|refine aH ?_ ?_<;>intro hv<;>try with_unfolding_all cases hv;done)
    all_goals refine aK ?_ ?_
    all_goals first|rfl
   have y2:(e2 != 0)=true:=by simpa using z2
   have z2:(e2==0)=false:=by simpa using z2
   clear c1 d1 d2 d3 law
   (have F_:=c5 zK zO zR zL (c5 zI zH zAg yA (c5 zS yB xX zAb (c5 zY xP zQ zED (c5 zEn zEq zCx zBL zCJ))));show W CC 0 95 (zE 4) _ ⟨[(0,_),(1,_),(2,_),(3,_)],[]⟩ _)
   (with_reducible repeat' first|apply aA|refine aB ?_|refine aC ?_|refine aD ?_|(first|apply zB|apply zA|apply zC|apply zD)<;>intro hg<;>try with_unfolding_all cases hg;done|refine aE ?_|refine aF ?_|refine aG ?_|refine aH ?_ ?_<;>intro hv<;>try with_unfolding_all cases hv;done)
   all_goals refine aK ?_ ?_
   all_goals first|rfl
  have y1:(e1 != 0)=true:=by simpa using z1
  have z1:(e1==0)=false:=by simpa using z1
  clear c1 d1 d2 d3 law
  (have F_:=c5 zK zO zR zL (c5 zI zH zAg yA (c5 zS yB xX zAb (c5 zY xP zQ zED (c5 zEn zEq zCx zBL zCJ))));show W CC 0 95 (zE 4) _ ⟨[(0,_),(1,_),(2,_),(3,_)],[]⟩ _)
  (with_reducible repeat' first|apply aA|refine aB ?_|refine aC ?_|refine aD ?_|(first|apply zB|apply zA|apply zC|apply zD)<;>intro hg<;>try with_unfolding_all cases hg;done|refine aE ?_|refine aF ?_|refine aG ?_|refine aH ?_ ?_<;>intro hv<;>try with_unfolding_all cases hv;done)
  all_goals refine aK ?_ ?_
  all_goals first|rfl
open Classical in
noncomputable def vpF(s:List Nat):Val×Int:=if h:s.length<9223372036854775808 then (zF9 s h).choose else (VZ,4)
theorem yDW:VPH vpF:=by
 intro s h;unfold vpF;rw[dif_pos h];exact(zF9 s h).choose_spec.1
theorem yBc(s:List Nat):VB (vpF s).1:=by
 unfold vpF;split
 ·rename_i h;exact(zF9 s h).choose_spec.2.1
 exact jV
theorem zJ5 (s m:List Nat) (self:Val) (nl cl:Bool) (vars:List Bind) (hsb:∀b ∈ s,b<256) (hmb:∀b ∈ m,b<256)
  (hn:R64 self.n) (hv:∀b ∈ vars,R64 b.v.n) (hvl:vars.length<9223372036854775808) :
  Om CC 4 [.t (.str s),.t (.str m),.t (.agg [.int .u8 self.k,.int .i64 self.n,.str self.s]),.t (.sl nl cl (vars.map Bind.c))] []=some (.val (.t (.bool true)),[]) :=
 zPo yDW yBc s m self nl cl vars hsb hmb hn hv hvl
end Go.Ab
