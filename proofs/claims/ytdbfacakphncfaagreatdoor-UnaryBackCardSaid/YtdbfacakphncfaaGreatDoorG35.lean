/- Lemmas. -/
import Derived.Test.YtdbfacakphncfaaGreatDoorG32
import Derived.Test.YtdbfacakphncfaaGreatDoorG34
set_option maxRecDepth 1000000
set_option maxHeartbeats 40000000
set_option linter.all false
namespace Go.Ab
open Go.Proofs
def yAW{a b:Node}:qG a b=true↔a.s=b.s:=by
 unfold qG Node.s;rw[wV];simp [eqI,and_assoc]
def zKr{α β:Type}{f:α→α→Bool}{g:α→β}(h:∀a b,f a b=true↔g a=g b):∀l r:List α,eqBy f l r=true↔l.map g=r.map g
 |[],[]=>by simp [eqBy]
 |a::l,[]=>by simp [eqBy]
 |[],b::r=>by simp [eqBy]
 |a::l,b::r=>by simp [eqBy,h,zKr h l r]
def zNT(l r:List Node):eqBy qG l r=true↔l.map Node.s=r.map Node.s:=zKr (f:=qG) (g:=Node.s) (fun _ _=>yAW) l r
def zY7{a b:Test}:uV a b=true↔a.s=b.s:=by
 unfold uV Test.s;simp only[Bool.and_eq_true,zNT,eqI,beq_iff_eq,decide_eq_true_eq,STst.mk.injEq]
 constructor
 ·rintro⟨h1,h2,h3,h4,h5,h6⟩;exact⟨h1,h5,h6,h2,h3,h4⟩
 rintro⟨h1,h5,h6,h2,h3,h4⟩;exact⟨h1,h2,h3,h4,h5,h6⟩
def zGc(l r:List Test):eqBy uV l r=true↔l.map Test.s=r.map Test.s:=zKr (f:=uV) (g:=Test.s) (fun _ _=>zY7) l r
theorem LX.lex{vp:List Nat→Val×Int}{p:List Nat}{ws:List BT}(h:LX vp p ws):lexB vp p=some ws:=by
 have:=h [] Sep.nil;rw[List.append_nil] at this;rw[this,lexB];simp [andL]
def zEW{s:List Nat}{L:List BT}{e:ET}{T:List Node}{r:List Nat×Int}(hs:∀c ∈ s,c<256)(hL:lexB vpF s=some L)(he:EOK L e)(hl:e.tl≤65536)(hT:T.map Node.s=e.ns)(h:zEe T r):r=(e.tx,0):=by
 obtain⟨x1,x2,x3⟩:=jS zIF hs hL e he.wf;have hw:wH T=e.tx:=zLG he.isE he.wf hT (by omega) x3;have hD:T.length=e.ns.length:=by rw[← hT,List.length_map]
 rcases h with ⟨h,_⟩|⟨L',e0,h1,h2,rfl⟩
 ·have:=he.few;omega
 rw[hw] at h1 ⊢;rcases h1 with ⟨rfl,h1⟩|⟨_,_,h1⟩
 ·rw[x1.lex] at h1;injection h1 with h1
  obtain⟨T2,p1,p2⟩:=zHD (l:=L') (i:=0) (r:=[]) he (by rw[List.drop_zero,← h1,List.append_nil]) (fun _ _ _ _=>rfl) (Nat.zero_le _);have kz:e.ws.length=L'.length:=by have:=congrArg List.length h1;simpa using this
  have hr:zAi L'=(T2,0):=by
   unfold zAi;rw[p1];dsimp only;rw[if_pos rfl,if_neg (by omega)]
  rw[if_pos rfl,if_pos rfl,hr];rw[if_pos ⟨rfl,(zNT _ _).2 (by rw[hT];exact p2.symm)⟩]
 rw[x1.lex] at h1;cases h1
open Classical in
noncomputable def alX(x:STst)(a:List Nat):List Nat:=if ∃T,ReadOK vpF a T∧T.map Test.s=[x] then a else 61::32::a
def zS9{x:Test}{a r:List Nat}(h:zIf x a r):r=alX x.s a:=by
 obtain⟨T,e,h1,h2,rfl⟩:=h;unfold alX
 by_cases he:e=0
 ·by_cases hq:eqBy uV T [x]=true
  ·rw[if_pos ⟨he,hq⟩,if_pos ⟨T,h1 he,(zGc _ _).1 hq⟩]
  rw[if_neg fun h=>hq h.2,if_neg];rintro⟨T',h3,h4⟩;exact hq ((zGc _ _).2 (by rw[zGp h3 (h1 he),h4];rfl))
 rw[if_neg fun h=>he h.1,if_neg];rintro⟨T',h3,h4⟩;exact(h2 he).2 T' h3
noncomputable def UT.tx:UT→List Nat
 |.any=>[45]
 |.cmp op e=>if op=2 then alX (eqS e) e.tx else zDn op++[32]++e.tx
 |.rng lo hi a b=>(if lo then [40] else [91])++a.tx++[32,46,46,32]++b.tx++(if hi then [41] else [93])
 |.not t=>[110,111,116,40]++t.tx++[41]
 |.list ks=>ks.tx
 |.one t=>t.tx
 |.cons t ks=>t.tx++[44,32]++ks.tx
noncomputable def UT.txs:UT→List (List Nat)
 |.one t=>[t.tx]
 |.cons t ks=>t.tx::ks.txs
 |_=>[]
variable {s:List Nat} {L:List BT}
theorem UT.lx(hs:∀c ∈ s,c<256)(hL:lexB vpF s=some L):∀u:UT,u.wf L→(∃w,UWs u w∧LX vpF u.tx w)∧u.tx.length≤u.tl∧∀c ∈ u.tx,c<256
 |.any,_=>⟨⟨_,.any,(LY.one (by decide) (by decide)).lx⟩,Nat.le_refl _,by rw[UT.tx];decide⟩
 |.cmp op e,hw=>by
  obtain⟨k0,he⟩:=hw;obtain⟨h1,h2,h3⟩:=jS zIF hs hL e he.wf;rw[UT.tx,UT.tl]
  by_cases h:op=2
  ·subst h;rw[if_pos rfl];unfold alX;split
   ·rename_i hq;refine⟨⟨e.ws,.eqa e ?_,h1⟩,by omega,h3⟩;obtain⟨T,⟨hV,k5,k6⟩,kh⟩:=hq;obtain⟨l,q1,q2,q3⟩:=hV;rw[h1.lex] at q1;injection q1 with q1
    obtain⟨f,k,n,p1,p2⟩:=zAR (l:=l) (Nat.zero_le _) (by rw[q2]);rw[q2] at p1;exact⟨l,f,k,n,T,q1.symm,by rw[q3];exact p1,kh⟩
   refine⟨⟨_,.cmp 2 e,?_⟩,by simp only[List.length_cons];omega,?_⟩
   ·have q:LX vpF ([32]++e.tx) ([]++e.ws):=LY.sp.app h1;exact(zCW (c:=61) (by decide)).app q fun r _=>Sep.cons (by decide)
   intro c hc;rcases List.mem_cons.1 hc with rfl|hc
   ·decide
   rcases List.mem_cons.1 hc with rfl|hc
   ·decide
   exact h3 c hc
  rw[if_neg h];have ka:LX vpF (zDn op) [sgB (zDn op)]∧(zDn op).length≤2∧∀c ∈ zDn op,c<256:=by
   rcases(by omega:op=3∨op=4∨op=5∨op=6) with rfl|rfl|rfl|rfl
   ·exact⟨zCW (by decide),by decide,by decide⟩
   ·exact⟨(zGF (by decide)).lx,by decide,by decide⟩
   ·exact⟨zCW (by decide),by decide,by decide⟩
   exact⟨(zGF (by decide)).lx,by decide,by decide⟩
  refine⟨⟨_,.cmp op e,?_⟩,by simp only[List.length_append,List.length_cons,List.length_nil];omega,?_⟩
  ·have q:LX vpF ([32]++e.tx) ([]++e.ws):=LY.sp.app h1;have q2:=ka.1.app q fun r _=>Sep.cons (by decide)
   rw[List.append_assoc];exact q2
  intro c hc;simp only[List.mem_append,List.mem_cons,List.not_mem_nil,or_false] at hc;rcases hc with (hc|rfl)|hc
  ·exact ka.2.2 c hc
  ·decide
  exact h3 c hc
 |.rng lo hi a b,hw=>by
  obtain⟨ha,hb⟩:=hw;obtain⟨a1,a2,a3⟩:=jS zIF hs hL a ha.wf;obtain⟨b1,b2,b3⟩:=jS zIF hs hL b hb.wf;have hW:LY vpF (if lo then [40] else [91]) [lowB lo]:=by cases lo<;>exact LY.one (by decide) (by decide)
  have hY:LX vpF (if hi then [41] else [93]) [zKZ hi]:=by cases hi<;>exact(LY.one (by decide) (by decide)).lx
  have ki:∀r,Sep r→Sep ((if hi then [41] else [93])++r):=fun r _=>by cases hi<;>exact Sep.cons (by decide)
  have q1:=b1.app hY ki;have q2:LX vpF ([32]++(b.tx++(if hi then [41] else [93]))) ([]++(b.ws++[zKZ hi])):=LY.sp.app q1;have q3:=(zGF (vp:=vpF) (c:=46) (d:=46) (by decide)).app q2;have q4:LX vpF ([32]++_) ([]++_):=LY.sp.app q3;have q5:=a1.app q4 fun r _=>Sep.cons (by decide)
  have q6:=hW.app q5;rw[UT.tx,UT.tl];refine⟨⟨_,.rng lo hi a b,?_⟩,?_,?_⟩
  ·simpa only [List.append_assoc,List.nil_append,List.cons_append] using q6
  ·cases lo<;>cases hi<;>simp<;>omega
  intro c hc;simp only[List.mem_append] at hc;rcases hc with (((hc|hc)|hc)|hc)|hc
  ·cases lo<;>simp at hc<;>omega
  ·exact a3 c hc
  ·simp at hc;omega
  ·exact b3 c hc
  cases hi<;>simp at hc<;>omega
 |.not t,hw=>by
  obtain⟨⟨w,h1,h2⟩,h3,h4⟩:=UT.lx hs hL t hw.2;rw[UT.tx,UT.tl];have q1:=h2.app (LY.one (vp:=vpF) (c:=41) (by decide) (by decide)).lx fun r _=>Sep.cons (by decide)
  have q2:=(LY.one (vp:=vpF) (c:=40) (by decide) (by decide)).app q1;have q3:=(zEP (vp:=vpF) [110,111,116] (by decide)).app q2 fun r _=>Sep.cons (by decide)
  refine⟨⟨_,.not h1,?_⟩,by simp only[List.length_append,List.length_cons,List.length_nil];omega,?_⟩
  ·simpa only [List.append_assoc,List.nil_append,List.cons_append] using q3
  intro c hc;simp only[List.mem_append,List.mem_cons,List.not_mem_nil,or_false] at hc;rcases hc with (hc|hc)|rfl
  ·omega
  ·exact h4 c hc
  decide
 |.list ks,hw=>by
  obtain⟨⟨w,h1,h2⟩,h3,h4⟩:=UT.lx hs hL ks hw.2;exact⟨⟨w,.list h1,h2⟩,h3,h4⟩
 |.one t,hw=>by
  obtain⟨⟨w,h1,h2⟩,h3,h4⟩:=UT.lx hs hL t hw.2;exact⟨⟨w,.one h1,h2⟩,h3,h4⟩
 |.cons t ks,hw=>by
  obtain⟨⟨w,h1,h2⟩,h3,h4⟩:=UT.lx hs hL t hw.1.2;obtain⟨⟨w',k1,k2⟩,k3,k4⟩:=UT.lx hs hL ks hw.2.2;rw[UT.tx,UT.tl];have q1:LX vpF ([32]++ks.tx) ([]++w'):=LY.sp.app k2;have q2:=(LY.one (vp:=vpF) (c:=44) (by decide) (by decide)).app q1;have q3:=h2.app q2 fun r _=>Sep.cons (by decide)
  refine⟨⟨_,.cons h1 k1,?_⟩,by simp only[List.length_append,List.length_cons,List.length_nil];omega,?_⟩
  ·simpa only [List.append_assoc,List.nil_append,List.cons_append] using q3
  intro c hc;simp only[List.mem_append,List.mem_cons,List.not_mem_nil,or_false] at hc;rcases hc with (hc|rfl|rfl)|hc
  ·exact h4 c hc
  ·decide
  ·decide
  exact k4 c hc
structure WrOK (T:List Test) (i:Nat) (X:List (List Nat)):Prop where
 len:X.length=T.length
 at_:∀j,j<i→∃x r,T[j]?=some x∧X[j]?=some r∧UwP T X j x r
theorem zFF{X Y:List (List Nat)}{i:Nat}(h:∀j,j<i→X[j]?=Y[j]?):∀l:List Int,uO X i l=uO Y i l
 |[]=>rfl
 |c::l=>by
  unfold uO;split
  ·rename_i hc;rw[List.getD,List.getD,h c.toNat (by omega),zFF h l]
  exact zFF h l
theorem UwP.congr{T:List Test}{X Y:List (List Nat)}{i:Nat}{x:Test}{r:List Nat}(h:∀j,j<i→X[j]?=Y[j]?)(hu:UwP T X i x r):UwP T Y i x r:=by
 obtain⟨A,B,al,h1,h2,h3,h4⟩:=hu;exact⟨A,B,al,h1,h2,h3,by rw[h4,zFF h]⟩
theorem WrOK.step{T:List Test}{i:Nat}{X:List (List Nat)}{x:Test}{r:List Nat}(h:WrOK T i X)(hx:T[i]?=some x)(hu:UwP T X i x r):WrOK T (i+1) (X.set i r):=by
 have hi:i<X.length:=by rw[h.len];exact(List.getElem?_eq_some_iff.1 hx).1
 have hc:∀j,j<i→X[j]?=(X.set i r)[j]?:=fun j hj=>by rw[List.getElem?_set_ne (by omega)]
 refine⟨by simpa using h.len,fun j hj=>?_⟩;rcases Nat.lt_or_ge j i with h'|h'
 ·obtain⟨y,q,h1,h2,h3⟩:=h.at_ j h';exact⟨y,q,h1,by rw[← hc j h'];exact h2,h3.congr fun k hk=>hc k (by omega)⟩
 obtain rfl:j=i:=by omega
 exact⟨x,r,hx,List.getElem?_set_self hi,hu.congr fun k hk=>hc k hk⟩
theorem zEi{T:List Test}{P:List STst}{x:STst}{R:List STst}(hT:T.map Test.s=P++[x]++R):∃n,T[P.length]?=some n∧n.s=x:=by
 have h:(T.map Test.s)[P.length]?=some x:=by rw[hT];simp
 rw[List.getElem?_map] at h;cases hn:T[P.length]? with
 |none=>rw[hn] at h;cases h
 |some n=>rw[hn] at h;exact⟨n,rfl,by simpa using h⟩
structure TxU (T:List Test) (P:List STst) (u:UT):Prop where
 one:u.isT→∃a:Nat,(u.g P).2=[(a:Int)]∧a<(u.g P).1.length∧∀X i,WrOK T i X→(u.g P).1.length≤i→X[a]?=some u.tx
 list:0<u.num→(u.g P).2.length=u.txs.length∧∀(k:Nat) (c:Int),(u.g P).2[k]?=some c→∃(a:Nat) (s:List Nat),c=a∧a<(u.g P).1.length∧u.txs[k]?=some s∧∀X i,WrOK T i X→(u.g P).1.length≤i→X[a]?=some s
 le:∀j,P.length≤j→j<(u.g P).1.length→∀X x r,WrOK T j X→T[j]?=some x→UwP T X j x r→r.length≤u.tx.length
theorem TxU.node {T:List Test} {P Q:List STst} {u:UT} {x:STst} (hE:u.isT) (kj:u.num=0) (hg:u.g P=(Q++[x],[(Q.length:Int)])) {n:Test} (hn:T[Q.length]?=some n)
  (hZ:∀j,P.length≤j→j<Q.length→∀X x r,WrOK T j X→T[j]?=some x→UwP T X j x r→r.length≤u.tx.length)
  (hs:∀X r,WrOK T Q.length X→UwP T X Q.length n r→r=u.tx):TxU T P u where
 one:=fun _=>by
  refine⟨Q.length,by rw[hg],by rw[hg];simp,fun X i hX hi=>?_⟩;rw[hg] at hi;simp only[List.length_append,List.length_cons,List.length_nil] at hi;obtain⟨y,r,h1,h2,h3⟩:=hX.at_ Q.length (by omega);rw[hn] at h1;cases h1;have kk:WrOK T Q.length X:=⟨hX.len,fun j hj=>hX.at_ j (by omega)⟩
  rw[h2,hs X r kk h3]
 list:=fun h=>by omega
 le:=fun j h1 h2 X x r hX hx hu=>by
  rw[hg] at h2;simp only[List.length_append,List.length_cons,List.length_nil] at h2;rcases Nat.lt_or_ge j Q.length with h|h
  ·exact hZ j h1 h X x r hX hx hu
  obtain rfl:j=Q.length:=by omega
  rw[hn] at hx;cases hx;rw[hs X r hX hu];exact Nat.le_refl _
theorem zNS:∀(u:UT),u.wf L→0<u.num→(∀c ∈ u.tx,c<256)→wF u.txs [44,32]=u.tx
 |.one e,_,_,h=>by
  have:wF [e.tx] [44,32]=nb (ub e.tx):=by unfold wF;simp [Go.Lib.join,Go.Lib.joinTail]
  rw[UT.txs,this,zLj (s:=e.tx) h];rfl
 |.cons e ks,hw,_,h=>by
  obtain⟨_,h1,h2⟩:=hw;have ih:=zNS ks h2 h1 fun c hc=>h c (by rw[UT.tx];simp [hc])
  have he:∀c ∈ e.tx,c<256:=fun c hc=>h c (by rw[UT.tx];simp [hc])
  cases hk:ks.txs with
  |nil=>cases ks<;>simp [UT.txs] at hk<;>simp [UT.num] at h1
  |cons a r =>
   rw[hk] at ih;rw[UT.txs,hk];have:wF (e.tx::a::r) [44,32]=nb (ub e.tx)++[44,32]++wF (a::r) [44,32]:=by
    unfold wF nb ub;simp [Go.Lib.join,Go.Lib.joinTail]
   rw[this,zLj he,ih];rfl
 |.any,_,h,_=>absurd h (Nat.lt_irrefl 0)
 |.cmp _ _,_,h,_=>absurd h (Nat.lt_irrefl 0)
 |.rng _ _ _ _,_,h,_=>absurd h (Nat.lt_irrefl 0)
 |.not _,_,h,_=>absurd h (Nat.lt_irrefl 0)
 |.list _,_,h,_=>absurd h (Nat.lt_irrefl 0)
theorem zKU{X:List (List Nat)}{i:Nat}:∀(K:List Int) (S:List (List Nat)),K.length=S.length→(∀(k:Nat) (c:Int),K[k]?=some c→∃(a:Nat) (s:List Nat),c=a∧a<i∧S[k]?=some s∧X[a]?=some s)→uO X i K=S
 |[],[],_,_=>rfl
 |[],_::_,h,_=>by simp at h
 |_::_,[],h,_=>by simp at h
 |c::K,s::S,h,hk=>by
  obtain⟨a,s',rfl,h1,h2,h3⟩:=hk 0 c rfl;simp only[List.getElem?_cons_zero,Option.some.injEq] at h2;subst h2;unfold uO;rw[if_pos (by omega),List.getD,Int.toNat_natCast,h3,zKU K S (by simpa using h) fun k c hc=>hk (k+1) c hc]
  rfl
theorem UT.told(hs:∀c ∈ s,c<256)(hL:lexB vpF s=some L){T:List Test}:∀(u:UT) (P R:List STst),T.map Test.s=(u.g P).1++R→u.wf L→u.tl≤65536→TxU T P u
 |.any,P,R,hT,hw,hl=>by
  obtain⟨n,hn,hx⟩:=zEi (P:=P) hT;refine TxU.node (Q:=P) trivial rfl rfl hn (fun j a b=>by omega) fun X r _ hu=>?_
  obtain⟨A,B,al,_,_,_,rfl⟩:=hu;have:n.op=1:=congrArg STst.op hx;rw[this];rfl
 |.cmp op e,P,R,hT,hw,hl=>by
  obtain⟨n,hn,hx⟩:=zEi (P:=P) hT;refine TxU.node (Q:=P) trivial rfl rfl hn (fun j a b=>by omega) fun X r _ hu=>?_
  obtain⟨A,B,al,h1,_,h3,rfl⟩:=hu;have ho:n.op=op:=congrArg STst.op hx;have ha:n.a.l.map Node.s=e.ns:=congrArg STst.a hx;have hA:=zEW hs hL hw.2 (by simp only[UT.tl] at hl;omega) ha h1;have kb:=zS9 h3;rw[hx,hA] at kb;rw[ho,hA,UT.tx];obtain⟨⟨o1,o2⟩,_⟩:=hw;rcases(by omega:op=2∨op=3∨op=4∨op=5∨op=6) with rfl|rfl|rfl|rfl|rfl
  ·rw[if_pos rfl];exact kb
  ·rfl
  ·rfl
  ·rfl
  rfl
 |.rng lo hi a b,P,R,hT,hw,hl=>by
  obtain⟨n,hn,hx⟩:=zEi (P:=P) hT;refine TxU.node (Q:=P) trivial rfl rfl hn (fun j a b=>by omega) fun X r _ hu=>?_
  obtain⟨A,B,al,h1,h2,_,rfl⟩:=hu;have ho:n.op=7:=congrArg STst.op hx;have ha:n.a.l.map Node.s=a.ns:=congrArg STst.a hx;have hb:n.b.l.map Node.s=b.ns:=congrArg STst.b hx;have hW:n.low=lo:=congrArg STst.low hx;have hY:n.high=hi:=congrArg STst.high hx;simp only[UT.tl] at hl;rw[ho,hW,hY,zEW hs hL hw.1 (by omega) ha h1,zEW hs hL hw.2 (by omega) hb h2]
  rfl
 |.not t,P,R,hT,hw,hl=>by
  have hf:T.map Test.s=(t.g P).1++([⟨8,[],[],false,false,(t.g P).2⟩]++R):=by rw[hT,UT.g];simp
  have hO:t.tl≤65536:=by simp only[UT.tl] at hl;omega
  have ih:=UT.told hs hL t P _ hf hw.2 hO;obtain⟨_,_,hb⟩:=UT.lx hs hL t hw.2;obtain⟨a,a1,a2,a3⟩:=ih.one hw.1;obtain⟨n,hn,hx⟩:=zEi (P:=(t.g P).1) (x:=⟨8,[],[],false,false,(t.g P).2⟩) (R:=R) (by rw[hf,List.append_assoc]);refine TxU.node (Q:=(t.g P).1) trivial rfl rfl hn (fun j h1 h2 X x r hX h0 hu=>?_) fun X r hX hu=>?_
  ·refine Nat.le_trans (ih.le j h1 h2 X x r hX h0 hu) ?_;rw[UT.tx];simp only[List.length_append,List.length_cons,List.length_nil];omega
  obtain⟨A,B,al,_,_,_,rfl⟩:=hu;have ho:n.op=8:=congrArg STst.op hx;have hk:n.kids.l=[(a:Int)]:=(congrArg STst.kids hx).trans a1;have hJ:uO X (t.g P).1.length [(a:Int)]=[t.tx]:=zKU _ _ rfl fun k c hc=>by
   cases k with
   |zero =>
    simp only[List.getElem?_cons_zero,Option.some.injEq] at hc;exact⟨a,t.tx,hc.symm,a2,rfl,a3 X _ hX (Nat.le_refl _)⟩
   |succ k=>simp at hc
  have hj:wF [t.tx] [44,32]=t.tx:=by
   have:wF [t.tx] [44,32]=nb (ub t.tx):=by unfold wF;simp [Go.Lib.join,Go.Lib.joinTail]
   rw[this,zLj hb]
  rw[ho,hk,hJ,hj];rfl
 |.list ks,P,R,hT,hw,hl=>by
  have hf:T.map Test.s=(ks.g P).1++([⟨9,[],[],false,false,(ks.g P).2⟩]++R):=by rw[hT,UT.g];simp
  have ih:=UT.told hs hL ks P _ hf hw.2 hl;obtain⟨_,_,hb⟩:=UT.lx hs hL ks hw.2;have kc:0<ks.num:=by have:=hw.1;omega
  obtain⟨l1,l2⟩:=ih.list kc;obtain⟨n,hn,hx⟩:=zEi (P:=(ks.g P).1) (x:=⟨9,[],[],false,false,(ks.g P).2⟩) (R:=R) (by rw[hf,List.append_assoc]);refine TxU.node (Q:=(ks.g P).1) trivial rfl rfl hn (fun j h1 h2 X x r hX h0 hu=>ih.le j h1 h2 X x r hX h0 hu) fun X r hX hu=>?_
  obtain⟨A,B,al,_,_,_,rfl⟩:=hu;have ho:n.op=9:=congrArg STst.op hx;have hk:n.kids.l=(ks.g P).2:=congrArg STst.kids hx;have hJ:uO X (ks.g P).1.length (ks.g P).2=ks.txs:=zKU _ _ l1 fun k c hc=>by
   obtain⟨a,s,h1,h2,h3,h4⟩:=l2 k c hc;exact⟨a,s,h1,h2,h3,h4 X _ hX (Nat.le_refl _)⟩
  rw[ho,hk,hJ,zNS ks hw.2 kc hb];rfl
 |.one t,P,R,hT,hw,hl=>by
  have ih:=UT.told hs hL t P R hT hw.2 hl;obtain⟨a,a1,a2,a3⟩:=ih.one hw.1.t;refine⟨fun h=>h.elim,fun _=>⟨by rw[show (UT.one t).g P=t.g P from rfl,a1];rfl,fun k c hc=>?_⟩,ih.le⟩;rw[show (UT.one t).g P=t.g P from rfl,a1] at hc;cases k with
  |zero =>
   simp only[List.getElem?_cons_zero,Option.some.injEq] at hc;exact⟨a,t.tx,hc.symm,a2,rfl,a3⟩
  |succ k=>simp at hc
 |.cons t ks,P,R,hT,hw,hl=>by
  obtain⟨⟨t1,t2⟩,k1,k2⟩:=hw;have hO:t.tl≤65536∧ks.tl≤65536:=by simp only[UT.tl] at hl;omega
  have hf:T.map Test.s=(ks.g (t.g P).1).1++R:=hT;obtain⟨S,hS⟩:=ks.g_pre (t.g P).1;have hV:T.map Test.s=(t.g P).1++(S++R):=by rw[hf,hS];simp
  have ih:=UT.told hs hL t P _ hV t2 hO.1;have ih2:=UT.told hs hL ks (t.g P).1 R hf k2 hO.2;obtain⟨a,a1,a2,a3⟩:=ih.one t1.t;obtain⟨l1,l2⟩:=ih2.list k1;have hZ:=ks.g_le (t.g P).1;have kd:((UT.cons t ks).g P).2=(a:Int)::(ks.g (t.g P).1).2:=by show (t.g P).2++_=_;rw[a1];rfl
  refine⟨fun h=>h.elim,fun _=>⟨by rw[kd,UT.txs,List.length_cons,List.length_cons,l1],fun k c hc=>?_⟩,fun j h1 h2 X x r hX hx hu=>?_⟩
  ·rw[kd] at hc;cases k with
   |zero =>
    simp only[List.getElem?_cons_zero,Option.some.injEq] at hc;exact⟨a,t.tx,hc.symm,by show a<(ks.g (t.g P).1).1.length;omega,rfl,fun X i hX hi=>a3 X i hX (by have:(ks.g (t.g P).1).1.length≤i:=hi;omega)⟩
   |succ k =>
    rw[List.getElem?_cons_succ] at hc;obtain⟨b,s,h1,h2,h3,h4⟩:=l2 k c hc;exact⟨b,s,h1,h2,h3,h4⟩
  rw[UT.tx];simp only[List.length_append,List.length_cons,List.length_nil];rcases Nat.lt_or_ge j (t.g P).1.length with h|h
  ·have:=ih.le j h1 h X x r hX hx hu;omega
  have:=ih2.le j h h2 X x r hX hx hu;omega
attribute [local irreducible] W RW RR
def zCk(T:List Test)(r:List Nat×Int):Prop :=
 (30<T.length∧r=([],4))∨(∃(i:Nat) (X:List (List Nat)) (x:Test) (s:List Nat),WrOK T i X∧T[i]?=some x∧UwP T X i x s∧65536<s.length∧r=([],4)) ∨
 ∃(X:List (List Nat)) (last:List Nat) (T2:List Test) (e:Int),WrOK T T.length X∧(∀j,j+1=T.length→X[j]?=some last)∧(T=[]→last=[])∧(e=0→ReadOK vpF last T2)∧(e≠0→T2=[]∧∀T',¬ ReadOK vpF last T') ∧
  r=if e=0∧eqBy uV T T2=true then (last,0) else ([],4)
def uwS(a b:Bool)(l:List (List Tree))(len:Nat)(x:Nat×List (List Nat)×List Nat):St :=
 ⟨[(0,.t (.sl a b l)),(4,.hs 0 0),(5,.t (.str x.2.2)),(17,.t (.int .i64 (len:Int))),(18,.t (.int .i64 (x.1:Int)))],[.arr 1 0 false (x.2.1.map sC)]⟩
structure UwI (T:List Test) (x:Nat×List (List Nat)×List Nat):Prop where
 i:x.1≤T.length
 len:x.2.1.length=T.length
 le:∀s ∈ x.2.1,s.length≤65536
 last:x.2.2.length≤65536∧Byt x.2.2
 wr:WrOK T x.1 x.2.1
 at_:∀j,j+1=x.1→x.2.1[j]?=some x.2.2
 zero:x.1=0→x.2.2=[]
def xbB:=c5 zF zG zP zE (c5 zC zB zO zK (c5 zR yV xC zM (c5 yR zI zYb zXU (c2 zBh zES))))
def zIh (a b:Bool) (T:List Test) (hP:∀x ∈ T,PTest x) :
  ∃r:List Nat×Int,Om CC 13 [.t (.sl a b (T.map Test.c))] []=some (.val (.tup [.t (.str r.1),.t (.int .i64 r.2)]),[])∧zCk T r:=by
 have h7:(T.map Test.c).length=T.length:=List.length_map ..;refine zJ yBZ rfl ?_
 by_cases h6:30<T.length
 ·have hd:decide (((T.map Test.c).length:Int) > 30)=true:=by rw[h7];simp;omega
  have hU:zCk T ([],4):=.inl ⟨h6,rfl⟩;generalize zCk T=UP at *;have hU:=Hid.mk hU;generalize T.map Test.c=l at *;clear hP h7 h6
  (have F_:=xbB;show W CC 0 48 (zA 13) _ ⟨[(0,_)],[]⟩ _)
  (refine gA ?_)
  all_goals refine aJ ?_<;>exact⟨(_,_),⟨rfl,rfl⟩,hU.h⟩
 have hd:decide ((T.length:Int) > 30)=false:=by simp;omega
 have km:=fun nid=>@mk50 T.length (by omega) nid
 have hU:∀r,zCk T r→zCk T r:=fun r h=>h
 (have F_:=xbB;show W CC 0 48 (zA 13) _ ⟨[(0,_)],[]⟩ _)
 generalize hl:T.map Test.c=l at *;generalize hE:(List.replicate T.length ([]:List Nat)).map sC=E at *
 (refine gA ?_)
 subst hE;subst hl;clear km h7;refine yE (uwS a b (T.map Test.c) T.length) (fun x=>T.length - x.1) (UwI T) (0,List.replicate T.length [],[]) (by simp only[uwS];exact aTd) ⟨Nat.zero_le _,by simp,fun s hs=>by rw[(List.mem_replicate.1 hs).2];simp,⟨by simp,Byt.nil⟩,⟨by simp,fun j hj=>absurd hj (Nat.not_lt_zero _)⟩,fun j hj=>by simp at hj,fun _=>rfl⟩ ?_;rintro⟨i,X,last⟩ ⟨hi,hX,hs,⟨hF,hG⟩,ht,hH,hz⟩;dsimp only at hi hX hs hF hG ht hH hz;simp only[uwS]
 by_cases hC:i<T.length
 ·have k7:IntKind.i64.wrap ((i:Int)+1)=((i+1:Nat):Int):=by rw[wrap64]<;>omega
  have ko:decide ((i:Int)<(T.length:Int))=true:=by simpa using hC
  obtain⟨x,hx⟩:∃x,T[i]?=some x:=⟨_,List.getElem?_eq_getElem hC⟩;obtain⟨s,k8,h8,hQ⟩:=zPB a b T X i x hx hX hs (hP x (List.mem_of_getElem? hx));have l0:((0:Int)≤(i:Int))=True:=by simp
  have l1:((i:Int)<(((X.map sC).length:Nat):Int))=True:=by have:i<X.length:=(by omega);simpa using this
  by_cases hq:65536<s.length
  ·have kp:decide (((s.length:Nat):Int) > 65536)=true:=by simp;omega
   have hh:zCk T ([],4):=.inr (.inl ⟨i,X,x,s,ht,hx,hQ,hq,rfl⟩);generalize zCk T=UP at *;have hh:=Hid.mk hh;generalize X.map sC=E at *;generalize T.map Test.c=l at *;clear hs hP hX hx hi hC hU ht hH hz hQ h8 hF hG hq h6
   (refine gA ?_)
   all_goals refine aJ ?_<;>exact⟨(_,_),⟨rfl,rfl⟩,hh.h⟩
  have kp:decide (((s.length:Nat):Int) > 65536)=false:=by simp;omega
  have kr:Hid _:=⟨(⟨hC,(List.length_set ..).trans hX,fun y hy=>(by rcases List.mem_or_eq_of_mem_set hy with h|rfl;exact hs y h;omega),⟨by dsimp only;omega,h8⟩,ht.step hx hQ,fun j hj=>(by have:j=i:=Nat.succ.inj hj;subst this;exact List.getElem?_set_self (by omega)),fun h=>absurd h (Nat.succ_ne_zero _)⟩:UwI T (i+1,X.set i s,s))⟩
  have kt:Hid _:=⟨show (X.set i s).map sC=(X.map sC).set i [.str s] from List.map_set⟩
  obtain⟨s0,ke⟩:∃s0,X[i]?=some s0:=⟨_,List.getElem?_eq_getElem (by omega)⟩;have k9:nth (X.map sC) i=some [.str s0]:=by rw[yP,List.getElem?_map,ke];rfl
  generalize X.map sC=E at *;generalize hl:T.map Test.c=l at *;clear hs hP hX hx hi hU ht hH hz hQ h8 hF hG ke h6
  (have x0_:=@uS.eq_1;(refine gA ?_);all_goals clear x0_)
  exact zD (i+1,X.set i s,s) (by dsimp only;omega) kr.h (by simp only[uwS];rw[kt.h];(have X_:=@uZ;exact aTdX))
 have ko:decide ((i:Int)<(T.length:Int))=false:=by simpa using hC
 obtain rfl:i=T.length:=by omega
 obtain⟨T2,p,e,hr,hT,hN⟩:=zBu zFN zC5 last hG hF;have hR:e=0→Om CC 14 [.t (.sl a b (T.map Test.c)),.t (wL T2)] []=some (.val (.t (.bool (eqBy uV T T2))),[]):=fun h=>zIO a b T2.isEmpty T2.isEmpty T T2 (by omega) (fun y hy=>(hP y hy).len)
 have hh:zCk T (if e=0∧eqBy uV T T2=true then (last,0) else ([],4)):=.inr (.inr ⟨X,last,T2,e,ht,hH,fun h=>hz (by rw[h];rfl),hT,hN,rfl⟩);generalize zCk T=UP at *;have hh:=Hid.mk hh;simp only[wL] at hr hR;generalize eqBy uV T T2=S at *;generalize X.map sC=E at *;generalize T.map Test.c=l at *;generalize T2.map Test.c=l2 at *;generalize T2.isEmpty=te at *;clear hs hP hX hi hC hU ht hH hz hF hG hT hN h6
 by_cases he:e=0
 ·have hR:=hR he;subst he;cases S
  all_goals
   (refine gA ?_)
   ((refine aJ ?_))
   exact⟨(_,_),⟨rfl,rfl⟩,by simpa using hh.h⟩
 have ma:(e != 0)=true:=by simpa using he
 clear hR
 (refine gA ?_)
 ((refine aJ ?_))
 exact⟨(_,_),⟨rfl,rfl⟩,by simpa [he] using hh.h⟩
def zRw {a b:Bool} {T:List Test} {r:List Nat×Int} (h:Om CC 13 [.t (.sl a b (T.map Test.c))] []=some (.val (.tup [.t (.str r.1),.t (.int .i64 r.2)]),[])) :
  Om CC 15 [.t (.sl a b (T.map Test.c))] []=some (.val (.t (.bool (r.2==0))),[]):=by
 refine zL yG2 rfl ?_;generalize T.map Test.c=l at *
 (have F_:=c5 zF zG zP zE (c5 zC zB zO zK (c5 zR yV zM yR (c3 zI yIF zJD)));show W CC 0 12 (zA 15) _ ⟨[(0,_)],[]⟩ _)
 (refine gA ?_)
 all_goals (refine aK ?_ ?_)<;>(rfl)
def NP(n:SNode):Prop:=(0≤n.op∧n.op<256)∧(R64 n.v.n∧n.v.s.length≤10000000)∧n.name.length≤10000000∧n.kids.length≤1000000000
def zTW{p:List Nat}{v:Val}(h:vpF p=(v,0)):R64 v.n∧v.s.length≤10000000:=by
 unfold vpF at h;split at h
 ·rename_i hp;have hs:=(zDj p hp).choose_spec.2;rw[h] at hs;exact⟨hs.1.1,by have:=hs.2.1;dsimp only at this;omega⟩
 injection h with h1 h2;cases h2
theorem ET.kn:∀(e:ET) (P:List SNode),(e.isE→(e.g P).2.length=1)∧(∀L:List BT,e.wf L→0<e.num→(e.g P).2.length=e.num)
 |.lit _,_=>⟨fun _=>rfl,fun _ _ h=>absurd h (Nat.lt_irrefl 0)⟩
 |.word _ _,_=>⟨fun _=>rfl,fun _ _ h=>absurd h (Nat.lt_irrefl 0)⟩
 |.var _,_=>⟨fun _=>rfl,fun _ _ h=>absurd h (Nat.lt_irrefl 0)⟩
 |.self,_=>⟨fun _=>rfl,fun _ _ h=>absurd h (Nat.lt_irrefl 0)⟩
 |.un _ _,_=>⟨fun _=>rfl,fun _ _ h=>absurd h (Nat.lt_irrefl 0)⟩
 |.bin _ _ _ _,_=>⟨fun _=>rfl,fun _ _ h=>absurd h (Nat.lt_irrefl 0)⟩
 |.call _ _ _,_=>⟨fun _=>rfl,fun _ _ h=>absurd h (Nat.lt_irrefl 0)⟩
 |.one e,P=>⟨fun h=>h.elim,fun L hw _=>(ET.kn e P).1 hw.1⟩
 |.cons e ks,P=>⟨fun h=>h.elim,fun L hw _=>by
   show ((e.g P).2++(ks.g (e.g P).1).2).length=ks.num+1
   rw[List.length_append,(ET.kn e P).1 hw.1.1,(ET.kn ks _).2 L hw.2.2 hw.2.1,Nat.add_comm]⟩
variable {s:List Nat} {L:List BT}
theorem ET.np(hL:lexB vpF s=some L):∀(e:ET) (P:List SNode),e.wf L→(∀n ∈ P,NP n)→∀n ∈ (e.g P).1,NP n:=by
 have sn:∀ {P:List SNode} {x:SNode},(∀n ∈ P,NP n)→NP x→∀n ∈ P++[x],NP n:=fun h hx n hn=>by
  rcases List.mem_append.1 hn with h'|h'
  ·exact h n h'
  rw[List.mem_singleton] at h';rw[h'];exact hx
 have z:R64 VZ.n∧VZ.s.length≤10000000:=⟨wC,by simp [VZ]⟩
 intro e
 induction e with
 |lit b =>
  intro P hw hP;refine sn hP ⟨by simp,?_,by simp,by simp⟩;obtain⟨c,r,n,h1,h2,h3⟩:=zDP s hL hw.1;obtain⟨p,p1,p2,p3,p4⟩:=zTT h1 h2 hw.2;rcases p4 with ⟨⟨c',p',e1,_,_,e2⟩,_,a3⟩|a
  ·dsimp only;rw[a3];exact⟨wC,by show b.2.1.length≤10000000;rw[e1];omega⟩
  exact zTW a
 |word w v =>
  intro P hw hP;refine sn hP ⟨by simp,?_,by simp,by simp⟩;have hv:=hw.2;simp only[zAj,xT] at hv
  repeat' split at hv
  ·cases hv;exact⟨zXI,by simp⟩
  ·cases hv;exact⟨wC,by simp⟩
  ·cases hv;exact⟨wC,by simp⟩
  cases hv
 |var b =>
  intro P hw hP;obtain⟨c,r,n,h1,h2,h3⟩:=zDP s hL hw.1;obtain⟨⟨c',p',e1,_,_,e2⟩,_⟩:=zPf h2 hw.2;exact sn hP ⟨by simp,z,by show b.2.1.length≤10000000;rw[e1];omega,by simp⟩
 |self=>intro P hw hP;exact sn hP ⟨by simp,z,by simp,by simp⟩
 |un n e ih =>
  intro P hw hP;refine sn (ih P hw.2.2 hP) ⟨?_,z,by simp,by show (e.g P).2.length≤1000000000;rw[(e.kn P).1 hw.2.1];omega⟩;rcases hw.1 with rfl|rfl<;>simp [oX]
 |bin n o x y ihx ihy =>
  intro P hw hP;obtain⟨_,⟨w,hw⟩,⟨ku,kv⟩,kw,kx⟩:=hw;refine sn (ihy _ kx (ihx P kv hP)) ⟨?_,z,by simp,?_⟩
  ·rcases n with _|_|_|_|_|_|n<;>simp only[opsX,List.mem_cons,List.mem_nil_iff,or_false,Prod.mk.injEq] at hw<;>dsimp only<;>omega
  show ((x.g P).2++(y.g (x.g P).1).2).length≤1000000000
  rw[List.length_append,(x.kn P).1 ku,(y.kn _).1 kw];omega
 |call w op ks ih =>
  intro P hw hP;obtain⟨⟨least,h9,hc,_,hm⟩,ky,kg⟩:=hw;have hq:(0≤op∧op<256)∧h9≤8:=by
   simp only[uK,xT] at hc
   repeat' split at hc
   all_goals first|(cases hc;exact⟨by decide,by decide⟩)|cases hc
  refine sn (ih P kg hP) ⟨hq.1,z,by simp,?_⟩
  show (ks.g P).2.length≤1000000000
  rw[(ks.kn P).2 L kg ky];omega
 |one e ih=>intro P hw hP;exact ih P hw.2 hP
 |cons e ks ihe ihk=>intro P hw hP;exact ihk _ hw.2.2 (ihe P hw.1.2 hP)
structure UOK (L:List BT) (u:UT):Prop where
 isT:u.isT
 wf:u.wf L
 nd:u.nd≤4
 tl:u.tl≤65000
 few:(u.g []).1.length≤30
def TP(L:List BT)(x:STst):Prop:=(0≤x.op∧x.op<256)∧(x.a=[]∨∃e,EOK L e∧e.tl≤65536∧x.a=e.ns)∧(x.b=[]∨∃e,EOK L e∧e.tl≤65536∧x.b=e.ns)∧x.kids.length≤1000000000
theorem UT.g_lt:∀(t:UT) (P:List STst),t.isT→P.length+1≤(t.g P).1.length
 |.any,_,_=>by simp [UT.g]
 |.cmp _ _,_,_=>by simp [UT.g]
 |.rng _ _ _ _,_,_=>by simp [UT.g]
 |.not t,P,_=>by have:=t.g_le P;simp only[UT.g,List.length_append,List.length_singleton];omega
 |.list ks,P,_=>by have:=ks.g_le P;simp only[UT.g,List.length_append,List.length_singleton];omega
 |.one _,_,h=>h.elim
 |.cons _ _,_,h=>h.elim
theorem UT.kl:∀(ks:UT) (P:List STst),ks.wf L→0<ks.num→P.length+ks.num≤(ks.g P).1.length:=by
 intro ks
 induction ks with
 |one t _=>intro P hw _;exact UT.g_lt t P hw.1.t
 |cons t ks _ ih =>
  intro P hw _;have h1:=ih (t.g P).1 hw.2.2 hw.2.1;have h2:=UT.g_lt t P hw.1.1.t
  show P.length+(ks.num+1)≤(ks.g (t.g P).1).1.length
  omega
 |_=>exact fun _ _ h=>absurd h (Nat.lt_irrefl 0)
theorem UT.kn:∀(u:UT) (P:List STst),(u.isT→(u.g P).2.length=1)∧(u.wf L→0<u.num→(u.g P).2.length=u.num∧u.num≤(u.g P).1.length)
 |.any,_=>⟨fun _=>rfl,fun _ h=>absurd h (Nat.lt_irrefl 0)⟩
 |.cmp _ _,_=>⟨fun _=>rfl,fun _ h=>absurd h (Nat.lt_irrefl 0)⟩
 |.rng _ _ _ _,_=>⟨fun _=>rfl,fun _ h=>absurd h (Nat.lt_irrefl 0)⟩
 |.not _,_=>⟨fun _=>rfl,fun _ h=>absurd h (Nat.lt_irrefl 0)⟩
 |.list _,_=>⟨fun _=>rfl,fun _ h=>absurd h (Nat.lt_irrefl 0)⟩
 |.one t,P=>⟨fun h=>h.elim,fun hw _=>⟨(UT.kn t P).1 hw.1.t,by
   obtain⟨a,h1,h2⟩:=t.root P hw.1.t
   show 1≤(t.g P).1.length
   omega⟩⟩
 |.cons t ks,P=>⟨fun h=>h.elim,fun hw _=>by
   obtain⟨⟨t1,t2⟩,k1,k2⟩:=hw;obtain⟨h1,h2⟩:=(UT.kn ks (t.g P).1).2 k2 k1;refine⟨?_,?_⟩
   ·show ((t.g P).2++(ks.g (t.g P).1).2).length=ks.num+1
    rw[List.length_append,(UT.kn t P).1 t1.t,h1,Nat.add_comm]
   show ks.num+1≤(ks.g (t.g P).1).1.length
   obtain⟨a,h3,h4⟩:=t.root P t1.t;have h5:=UT.kl ks (t.g P).1 k2 k1;omega⟩
theorem UT.tp:∀(u:UT) (P:List STst),u.wf L→u.tl≤65536→(u.g P).1.length≤1000000→(∀x ∈ P,TP L x)→∀x ∈ (u.g P).1,TP L x:=by
 have sn:∀ {P:List STst} {x:STst},(∀n ∈ P,TP L n)→TP L x→∀n ∈ P++[x],TP L n:=fun h hx n hn=>by
  rcases List.mem_append.1 hn with h'|h'
  ·exact h n h'
  rw[List.mem_singleton] at h';rw[h'];exact hx
 intro u
 induction u with
 |any=>intro P hw hl _ hP;exact sn hP ⟨by simp,.inl rfl,.inl rfl,by simp⟩
 |cmp op e=>intro P hw hl _ hP;exact sn hP ⟨by have:=hw.1;dsimp only;omega,.inr ⟨e,hw.2,by simp only[UT.tl] at hl;omega,rfl⟩,.inl rfl,by simp⟩
 |rng lo hi a b=>intro P hw hl _ hP;simp only[UT.tl] at hl;exact sn hP ⟨by simp,.inr ⟨a,hw.1,by omega,rfl⟩,.inr ⟨b,hw.2,by omega,rfl⟩,by simp⟩
 |not t ih =>
  intro P hw hl hn hP;simp only[UT.tl] at hl;have hI:(t.g P).1.length≤1000000:=by simp only[UT.g,List.length_append] at hn;omega
  exact sn (ih P hw.2 (by omega) hI hP) ⟨by simp,.inl rfl,.inl rfl,by show (t.g P).2.length≤1000000000;rw[(UT.kn (L:=L) t P).1 hw.1];omega⟩
 |list ks ih =>
  intro P hw hl hn hP;have hI:(ks.g P).1.length≤1000000:=by simp only[UT.g,List.length_append] at hn;omega
  obtain⟨h1,h2⟩:=(UT.kn ks P).2 hw.2 (by have:=hw.1;omega);exact sn (ih P hw.2 hl hI hP) ⟨by simp,.inl rfl,.inl rfl,by show (ks.g P).2.length≤1000000000;omega⟩
 |one t ih=>intro P hw hl hn hP;exact ih P hw.2 hl hn hP
 |cons t ks ih1 ih2 =>
  intro P hw hl hn hP;simp only[UT.tl] at hl;have hZ:=ks.g_le (t.g P).1;have hI:(ks.g (t.g P).1).1.length≤1000000:=hn;exact ih2 _ hw.2.2 (by omega) hI (ih1 P hw.1.2 (by omega) (by omega) hP)
theorem zHC(hs:∀c ∈ s,c<256)(hL:lexB vpF s=some L){u:UT}(hu:UOK L u){T:List Test}(hT:T.map Test.s=(u.g []).1):∀x ∈ T,PTest x:=by
 intro x hx;have hp:TP L x.s:=UT.tp u [] hu.wf (Nat.le_trans hu.tl (by decide)) (by have:=hu.few;omega) (fun _ h=>by cases h) x.s (by rw[← hT];exact List.mem_map.2 ⟨x,hx,rfl⟩);have ex:∀N:List Node,(N.map Node.s=[]∨∃e,EOK L e∧e.tl≤65536∧N.map Node.s=e.ns)→N.length≤1000000000∧(∀m ∈ N,PNode m)∧(N.length≤60→Byt (wH N)):=by
  intro N h;rcases h with h|⟨e,h1,h2,h3⟩
  ·rw[List.map_eq_nil_iff] at h;subst h;exact⟨by simp,fun _ h=>(by cases h),fun _=>by unfold wH;simp [wgo,Byt]⟩
  obtain⟨_,x2,x3⟩:=jS zIF hs hL e h1.wf;have hD:N.length=e.ns.length:=by rw[← h3,List.length_map]
  refine⟨by have:=h1.few;omega,fun m hm=>?_,fun _=>?_⟩
  ·obtain⟨a,b,c,d⟩:=ET.np hL e [] h1.wf (fun _ h=>by cases h) m.s (by show m.s ∈ e.ns;rw[← h3];exact List.mem_map.2 ⟨m,hm,rfl⟩);exact⟨a,b,c,d⟩
  rw[zLG h1.isE h1.wf h3 (by omega) x3];exact x3
 obtain⟨h1,h2,h3,h4⟩:=hp;exact⟨h1,ex x.a.l h2,ex x.b.l h3,h4⟩
theorem zUs{s:List Nat}{l:List Tok}{T:List Test}(mb:s.length≤65536)(h1:lexB vpF s=some (l.map Tok.b))(h2:xB l 0=(T,l.length,0)):ReadOK vpF s T:=by
 obtain⟨a,b⟩:=zJd zC5 h1;obtain⟨n1,n2⟩:=zLH a (by rw[h2]);refine⟨⟨l,h1,by rw[h2],by rw[h2]⟩,?_,fun x hx=>?_⟩
 ·rw[h2] at n2;dsimp only at n2;omega
 exact zVW (by omega) (n1 x (by rw[h2];exact hx))
def yIC(b:BT):Tok:=⟨b.1,b.2.1,b.2.2,0,0⟩
theorem zQt(w:List BT):(w.map yIC).map Tok.b=w:=by
 rw[List.map_map]
 conv=>rhs;rw[← List.map_id w]
 rfl
theorem zNf{s:List Nat}{T:List Test}(hl:s.length≤3000)(h:ReadOK vpF s T):∃L u,lexB vpF s=some L∧UOK L u∧T.map Test.s=(u.g []).1:=by
 obtain⟨l,h1,h2,h3⟩:=h.lex;obtain⟨f,k,n,p1,p2⟩:=zAR (l:=l) (Nat.zero_le _) (by rw[h2]);rw[h2,← h3] at p1;rw[← h3] at p2;obtain⟨_,u,u1,u2,u3,u4,u5,u6⟩:=zFf _ _ _ _ _ _ p1 (Nat.zero_le _);have hw:=yFt h1;refine⟨l.map Tok.b,u,h1,⟨u1,u2,by have:=u5 (by omega);omega,by omega,?_⟩,u3⟩;have:T.length=(u.g []).1.length:=by have:=congrArg List.length u3;simpa using this
 omega
theorem zJL(hs:∀c ∈ s,c<256)(hL:lexB vpF s=some L){u:UT}(hu:UOK L u):(∃w,UWs u w∧LX vpF u.tx w)∧u.tx.length≤u.tl∧Byt u.tx∧∃T,ReadOK vpF u.tx T∧T.map Test.s=(u.g []).1:=by
 obtain⟨⟨w,w1,w2⟩,h2,h3⟩:=UT.lx hs hL u hu.wf;obtain⟨T,p1,p2⟩:=UT.again w1 (zQt w) hu.isT hu.wf hu.nd hu.few;exact⟨⟨w,w1,w2⟩,h2,h3,T,zUs (by have:=hu.tl;omega) (by rw[zQt];exact w2.lex) p1,p2⟩
theorem zHw(hs:∀c ∈ s,c<256)(hL:lexB vpF s=some L){u:UT}(hu:UOK L u){T:List Test}(hT:T.map Test.s=(u.g []).1){r:List Nat×Int}(h:zCk T r):r=(u.tx,0):=by
 have hD:T.length=(u.g []).1.length:=by rw[← hT,List.length_map]
 have told:=UT.told hs hL u [] [] (T:=T) (by rw[hT,List.append_nil]) hu.wf (Nat.le_trans hu.tl (by decide));obtain⟨_,x2,_,T0,r1,r2⟩:=zJL hs hL hu;rcases h with ⟨h,_⟩|⟨i,X,x,s',h1,h2,h3,h4,_⟩|⟨X,last,T2,e,h1,h2,h3,h4,h5,rfl⟩
 ·have:=hu.few;omega
 ·have hi:=(List.getElem?_eq_some_iff.1 h2).1;have:=told.le i (Nat.zero_le _) (by omega) X x s' h1 h2 h3;have:=hu.tl;omega
 obtain⟨a,a1,a2,a3⟩:=told.one hu.isT;obtain⟨a',b1,b2⟩:=u.root [] hu.isT;rw[b1] at a1;have:a'=a:=by injection a1 with a1 _;omega
 subst this;have hM:last=u.tx:=by
  have e1:=h2 a' (by omega);have e2:=a3 X T.length h1 (by omega);rw[e1] at e2;exact Option.some.inj e2
 subst hM
 by_cases he:e=0
 ·rw[if_pos ⟨he,(zGc _ _).2 (by rw[hT,zGp r1 (h4 he),r2])⟩]
 exact absurd r1 ((h5 he).2 T0)
end Go.Ab
