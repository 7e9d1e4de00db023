/- Lemmas. -/
import Derived.Test.YtdbfacakphncfaaGreatDoorG29
import Derived.Test.YtdbfacakphncfaaGreatDoorG27
set_option maxRecDepth 1000000
set_option maxHeartbeats 40000000
set_option linter.all false
namespace Go.Ab
open Go.Proofs
def parT(m n:Nat)(s:List Nat):List Nat:=if m<n then 40::s++[41] else s
noncomputable def ET.tx:ET→List Nat
 |.lit b=>vtT b.2.2
 |.word _ v=>vtT v
 |.var b=>63::b.2.1
 |.self=>[63]
 |.un n e=>(if n=2 then [110,111,116,32] else [45])++parT e.lvl n e.tx
 |.bin n o x y=>parT x.lvl (xLv n) x.tx++[32]++opWd o++[32]++parT y.lvl (n+1) y.tx
 |.call w _ ks=>w++[40]++ks.tx++[41]
 |.one e=>e.tx
 |.cons e ks=>e.tx++[44,32]++ks.tx
noncomputable def ET.txs:ET→List (List Nat)
 |.one e=>[e.tx]
 |.cons e ks=>e.tx::ks.txs
 |_=>[]
theorem ET.g_pre:∀(e:ET) (P:List SNode),∃S,(e.g P).1=P++S
 |.lit b,P=>⟨_,rfl⟩
 |.word _ v,P=>⟨_,rfl⟩
 |.var b,P=>⟨_,rfl⟩
 |.self,P=>⟨_,rfl⟩
 |.un n e,P=>by
  obtain⟨S,h⟩:=ET.g_pre e P;exact⟨S++[⟨oX n,VZ,[],(e.g P).2⟩],by rw[ET.g,h];simp⟩
 |.bin n o x y,P=>by
  obtain⟨S,h⟩:=ET.g_pre x P;obtain⟨S',h'⟩:=ET.g_pre y (x.g P).1;rw[h] at h';exact⟨S++S'++[⟨o,VZ,[],(x.g P).2++(y.g (x.g P).1).2⟩],by rw[ET.g,h,h'];simp⟩
 |.call w op ks,P=>by
  obtain⟨S,h⟩:=ET.g_pre ks P;exact⟨S++[⟨op,VZ,[],(ks.g P).2⟩],by rw[ET.g,h];simp⟩
 |.one e,P=>ET.g_pre e P
 |.cons e ks,P=>by
  obtain⟨S,h⟩:=ET.g_pre e P;obtain⟨S',h'⟩:=ET.g_pre ks (e.g P).1;rw[h] at h';exact⟨S++S',by rw[ET.g,h,h'];simp⟩
theorem ET.g_le(e:ET)(P:List SNode):P.length≤(e.g P).1.length:=by
 obtain⟨S,h⟩:=e.g_pre P;rw[h];simp
def AtX(T:List Node)(X:List (List Nat))(c:Int)(n:Nat)(s:List Nat):Prop:=∃j:Nat,c=j∧(∃m,T[j]?=some m∧(ofX m.op).2=n)∧X[j]?=some s
def zJw{T:List Node}{X:List (List Nat)}{i k least:Nat}{n:Node}{c:Int}{lv:Nat}{s:List Nat}(hn:T[i]?=some n)(hk:n.kids.l[k]?=some c)(h:AtX T X c lv s)(hc:c<(i:Int)):kidX T X i k least=parT lv least s:=by
 obtain⟨j,rfl,⟨m,h1,h2⟩,h3⟩:=h;unfold kidX;simp only[hn,hk];rw[if_pos ⟨by omega,hc⟩];simp only[Int.toNat_natCast,h1,h3,h2]
 rfl
structure TxS (T:List Node) (P:List SNode) (e:ET) (X:List (List Nat)) (last:List Nat) (X':List (List Nat)) (last':List Nat):Prop where
 go:wgo T (T.drop P.length) P.length X last=wgo T (T.drop (e.g P).1.length) (e.g P).1.length X' last'
 len:X'.length=X.length
 keep:∀j,j<P.length→X'[j]?=X[j]?
 one:e.isE→∃a:Nat,(e.g P).2=[(a:Int)]∧a<(e.g P).1.length∧AtX T X' a e.lvl e.tx∧last'=e.tx
 list:0<e.num→(e.g P).2.length=e.txs.length∧∀(k:Nat) (c:Int),(e.g P).2[k]?=some c→c<((e.g P).1.length:Int)∧∃(lv:Nat) (s:List Nat),AtX T X' c lv s∧e.txs[k]?=some s
def zBr{T:List Node}{P:List SNode}{x:SNode}{R:List SNode}(hT:T.map Node.s=P++[x]++R):∃n,T[P.length]?=some n∧n.s=x∧P.length<T.length:=by
 have h:(T.map Node.s)[P.length]?=some x:=by rw[hT];simp
 rw[List.getElem?_map] at h;cases hn:T[P.length]? with
 |none=>rw[hn] at h;cases h
 |some n=>rw[hn] at h;exact⟨n,rfl,by simpa using h,(List.getElem?_eq_some_iff.1 hn).1⟩
def zXv{T:List Node}{i:Nat}{n:Node}{X:List (List Nat)}{last s:List Nat}(hn:T[i]?=some n)(hs:qK T X i n=s)(hl:s.length≤65536):wgo T (T.drop i) i X last=wgo T (T.drop (i+1)) (i+1) (X.set i s) s:=by
 rw[zUp hn,hs,if_neg (by omega)]
theorem TxS.node {T:List Node} {P Q:List SNode} {e:ET} {x:SNode} {X X1:List (List Nat)} {last last1:List Nat} {n:Node} (hE:e.isE) (hH:e.num=0) (hg:e.g P=(Q++[x],[(Q.length:Int)])) (hn:T[Q.length]?=some n) (hV:P.length≤Q.length)
  (hI:(ofX n.op).2=e.lvl) (hs:qK T X1 Q.length n=e.tx) (hl:e.tx.length≤65536) (hX:X1.length=X.length) (hJ:X.length=T.length)
  (go:wgo T (T.drop P.length) P.length X last=wgo T (T.drop Q.length) Q.length X1 last1) (keep:∀j,j<P.length→X1[j]?=X[j]?) :
  TxS T P e X last (X1.set Q.length e.tx) e.tx where
 go:=by rw[go,zXv hn hs hl,hg];simp
 len:=by simpa using hX
 keep:=fun j hj=>by rw[List.getElem?_set_ne (by omega)];exact keep j hj
 one:=fun _=>by
  refine⟨Q.length,by rw[hg],by rw[hg];simp,⟨Q.length,rfl,⟨n,hn,hI⟩,?_⟩,rfl⟩;rw[List.getElem?_set_self];rw[hX,hJ];exact(List.getElem?_eq_some_iff.1 hn).1
 list:=fun h=>by omega
def zMO(m n:Nat)(s:List Nat):s.length≤(parT m n s).length:=by unfold parT;split<;>simp;omega
def zKm{m n:Nat}{s:List Nat}{c:Nat}(h:c ∈ s):c ∈ parT m n s:=by unfold parT;split<;>simp [h]
def zLj{s:List Nat}(h:∀c ∈ s,c<256):nb (ub s)=s:=by
 unfold nb ub;rw[List.map_map]
 conv=>rhs;rw[← List.map_id s]
 apply List.map_congr_left;intro c hc;have:=h c hc;simp [Function.comp,UInt8.toNat_ofNat,Nat.mod_eq_of_lt this]
def zM7:∀(e:ET) (L:List BT),e.wf L→0<e.num→(∀c ∈ e.tx,c<256)→wF e.txs [44,32]=e.tx
 |.one e,L,_,_,h=>by
  have:wF [e.tx] [44,32]=nb (ub e.tx):=by unfold wF;simp [Go.Lib.join,Go.Lib.joinTail]
  rw[ET.txs,this,zLj (s:=e.tx) h];rfl
 |.cons e ks,L,hw,_,h=>by
  obtain⟨_,h1,h2⟩:=hw;have ih:=zM7 ks L h2 h1 fun c hc=>h c (by rw[ET.tx];simp [hc])
  have he:∀c ∈ e.tx,c<256:=fun c hc=>h c (by rw[ET.tx];simp [hc])
  cases hk:ks.txs with
  |nil=>cases ks<;>simp [ET.txs] at hk<;>simp [ET.num] at h1
  |cons a r =>
   rw[hk] at ih;rw[ET.txs,hk];have:wF (e.tx::a::r) [44,32]=nb (ub e.tx)++[44,32]++wF (a::r) [44,32]:=by
    unfold wF nb ub;simp [Go.Lib.join,Go.Lib.joinTail]
   rw[this,zLj he,ih];rfl
 |.lit _,_,_,h,_=>absurd h (Nat.lt_irrefl 0)
 |.word _ _,_,_,h,_=>absurd h (Nat.lt_irrefl 0)
 |.var _,_,_,h,_=>absurd h (Nat.lt_irrefl 0)
 |.self,_,_,h,_=>absurd h (Nat.lt_irrefl 0)
 |.un _ _,_,_,h,_=>absurd h (Nat.lt_irrefl 0)
 |.bin _ _ _ _,_,_,h,_=>absurd h (Nat.lt_irrefl 0)
 |.call _ _ _,_,_,h,_=>absurd h (Nat.lt_irrefl 0)
def yER{n:Nat}{o:Int}{w:List Nat}(h:(w,o) ∈ opsX n):ofX o=(opWd o,n)∧o≠1∧o≠2∧o≠3∧n<6∧n≠2:=by
 rcases n with _|_|_|_|_|_|n<;>simp only[opsX,List.mem_cons,List.mem_nil_iff,or_false,Prod.mk.injEq] at h
 ·obtain⟨_,rfl⟩:=h;decide
 ·obtain⟨_,rfl⟩:=h;decide
 ·rcases h with ⟨_,rfl⟩|⟨_,rfl⟩|⟨_,rfl⟩|⟨_,rfl⟩|⟨_,rfl⟩|⟨_,rfl⟩<;>decide
 ·rcases h with ⟨_,rfl⟩|⟨_,rfl⟩<;>decide
 rcases h with ⟨_,rfl⟩|⟨_,rfl⟩<;>decide
def zXb{w:List Nat}{op:Int}{a b:Nat}(h:xT w uK=some (op,a,b)):ofX op=(w,8)∧op≠1∧op≠2∧op≠3:=by
 simp only[uK,xT] at h
 repeat' split at h
 all_goals (first|(cases h;done)|skip)<;>(rename_i hw;subst hw;cases h;decide)
def zC0:∀(e:ET) (L:List BT) (P R:List SNode) (T:List Node) (X:List (List Nat)) (last:List Nat),e.wf L→T.map Node.s=(e.g P).1++R→X.length=T.length→e.tx.length≤65536→(∀c ∈ e.tx,c<256) →
  ∃X' last',TxS T P e X last X' last'
 |.lit b,L,P,R,T,X,last,hw,hT,hX,hl,hb=>by
  obtain⟨n,hn,hs,_⟩:=zBr (P:=P) hT;refine⟨_,_,TxS.node (Q:=P) trivial rfl rfl hn (Nat.le_refl _) ?_ ?_ hl rfl hX rfl fun _ _=>rfl⟩
  ·have:n.op=1:=congrArg SNode.op hs;rw[this];rfl
  have h1:n.op=1:=congrArg SNode.op hs;have h2:n.v=b.2.2:=congrArg SNode.v hs;unfold qK;rw[if_pos h1,h2];rfl
 |.word w v,L,P,R,T,X,last,hw,hT,hX,hl,hb=>by
  obtain⟨n,hn,hs,_⟩:=zBr (P:=P) hT;refine⟨_,_,TxS.node (Q:=P) trivial rfl rfl hn (Nat.le_refl _) ?_ ?_ hl rfl hX rfl fun _ _=>rfl⟩
  ·have:n.op=1:=congrArg SNode.op hs;rw[this];rfl
  have h1:n.op=1:=congrArg SNode.op hs;have h2:n.v=v:=congrArg SNode.v hs;unfold qK;rw[if_pos h1,h2];rfl
 |.var b,L,P,R,T,X,last,hw,hT,hX,hl,hb=>by
  obtain⟨n,hn,hs,_⟩:=zBr (P:=P) hT;refine⟨_,_,TxS.node (Q:=P) trivial rfl rfl hn (Nat.le_refl _) ?_ ?_ hl rfl hX rfl fun _ _=>rfl⟩
  ·have:n.op=2:=congrArg SNode.op hs;rw[this];rfl
  have h1:n.op=2:=congrArg SNode.op hs;have h2:n.name=b.2.1:=congrArg SNode.name hs;unfold qK;rw[if_neg (by rw[h1];decide),if_pos h1,h2];rfl
 |.self,L,P,R,T,X,last,hw,hT,hX,hl,hb=>by
  obtain⟨n,hn,hs,_⟩:=zBr (P:=P) hT;refine⟨_,_,TxS.node (Q:=P) trivial rfl rfl hn (Nat.le_refl _) ?_ ?_ hl rfl hX rfl fun _ _=>rfl⟩
  ·have:n.op=3:=congrArg SNode.op hs;rw[this];rfl
  have h1:n.op=3:=congrArg SNode.op hs;unfold qK;rw[if_neg (by rw[h1];decide),if_neg (by rw[h1];decide),if_pos h1];rfl
 |.un n e,L,P,R,T,X,last,hw,hT,hX,hl,hb=>by
  obtain⟨hn,hh,hq⟩:=hw;have hz:=zMO e.lvl n e.tx;have hf:(parT e.lvl n e.tx).length≤65536:=by rw[ET.tx,List.length_append] at hl;omega
  have ha:T.map Node.s=(e.g P).1++([⟨oX n,VZ,[],(e.g P).2⟩]++R):=by rw[hT,ET.g];simp
  obtain⟨X1,last1,s⟩:=zC0 e L P _ T X last hq ha hX (by omega) fun c hc=>hb c (by rw[ET.tx];exact List.mem_append_right _ (zKm hc))
  obtain⟨a,a1,a2,a3,a4⟩:=s.one hh;obtain⟨m,hm,hs,_⟩:=zBr (P:=(e.g P).1) (x:=⟨oX n,VZ,[],(e.g P).2⟩) (R:=R) (by rw[ha,List.append_assoc]);have h1:m.op=oX n:=congrArg SNode.op hs;have h2:m.kids.l=[(a:Int)]:=(congrArg SNode.kids hs).trans a1;have hk:kidX T X1 (e.g P).1.length 0 n=parT e.lvl n e.tx:=zJw hm (by rw[h2];rfl) a3 (by omega);refine⟨_,_,TxS.node (Q:=(e.g P).1) trivial rfl rfl hm (e.g_le P) ?_ ?_ hl s.len hX s.go s.keep⟩
  ·rw[h1];rcases hn with rfl|rfl<;>rfl
  unfold qK;rcases hn with rfl|rfl
  ·rw[show oX 2=6 from rfl] at h1;have ho:ofX 6=([110,111,116,32],2):=rfl;simp only[h1,ho,hk]
   rfl
  rw[show oX 6=17 from rfl] at h1;have ho:ofX 17=([45],6):=rfl;simp only[h1,ho,hk]
  rfl
 |.bin n o x y,L,P,R,T,X,last,hw,hT,hX,hl,hb=>by
  obtain⟨hn,⟨w,hw⟩,⟨hM,hN⟩,hO,hP⟩:=hw;obtain⟨o1,o2,o3,o4,o5,o6⟩:=yER hw;have hW:=zMO x.lvl (xLv n) x.tx;have hY:=zMO y.lvl (n+1) y.tx;have hf:(parT x.lvl (xLv n) x.tx).length≤65536∧(parT y.lvl (n+1) y.tx).length≤65536:=by rw[ET.tx] at hl;simp only[List.length_append] at hl;omega
  have ha:T.map Node.s=(y.g (x.g P).1).1++([⟨o,VZ,[],(x.g P).2++(y.g (x.g P).1).2⟩]++R):=by rw[hT,ET.g];simp
  obtain⟨S,hS⟩:=y.g_pre (x.g P).1;have hA:T.map Node.s=(x.g P).1++(S++([⟨o,VZ,[],(x.g P).2++(y.g (x.g P).1).2⟩]++R)):=by rw[ha,hS];simp
  obtain⟨X1,last1,s⟩:=zC0 x L P _ T X last hN hA hX (by omega) fun c hc=>hb c (by rw[ET.tx];simp only[List.mem_append];exact .inl (.inl (.inl (.inl (zKm hc)))))
  obtain⟨X2,last2,s2⟩:=zC0 y L (x.g P).1 _ T X1 last1 hP ha (s.len.trans hX) (by omega) fun c hc=>hb c (by rw[ET.tx];exact List.mem_append_right _ (zKm hc))
  obtain⟨a,a1,a2,a3,a4⟩:=s.one hM;obtain⟨b,b1,b2,b3,b4⟩:=s2.one hO;obtain⟨m,hm,hs,_⟩:=zBr (P:=(y.g (x.g P).1).1) (x:=⟨o,VZ,[],(x.g P).2++(y.g (x.g P).1).2⟩) (R:=R) (by rw[ha,List.append_assoc]);have h1:m.op=o:=congrArg SNode.op hs;have h2:m.kids.l=[(a:Int),(b:Int)]:=(congrArg SNode.kids hs).trans (by show (x.g P).2++(y.g (x.g P).1).2=_;rw[a1,b1];rfl);have a3':AtX T X2 a x.lvl x.tx:=by
   obtain⟨j,hj,hm,hx⟩:=a3;have:j=a:=by omega
   subst this;exact⟨j,rfl,hm,by rw[s2.keep j a2];exact hx⟩
  have hz:=y.g_le (x.g P).1;have hD:∀lv,kidX T X2 (y.g (x.g P).1).1.length 0 lv=parT x.lvl lv x.tx:=fun lv=>zJw hm (by rw[h2];rfl) a3' (by omega)
  have hd:∀lv,kidX T X2 (y.g (x.g P).1).1.length 1 lv=parT y.lvl lv y.tx:=fun lv=>zJw hm (by rw[h2];rfl) b3 (by omega)
  refine⟨_,_,TxS.node (Q:=(y.g (x.g P).1).1) trivial rfl rfl hm (Nat.le_trans (x.g_le P) hz) ?_ ?_ hl (s2.len.trans s.len) hX (s.go.trans s2.go) fun j hj=>?_⟩
  ·rw[h1,o1];rfl
  ·unfold qK;rw[h1,if_neg o2,if_neg o3,if_neg o4,o1];dsimp only;rw[if_neg (by omega),if_neg (by omega),ET.tx]
   by_cases h3:n=3
   ·subst h3;rw[if_pos rfl,hD,hd];rfl
   rw[if_neg h3,hD,hd];unfold xLv;rw[if_neg h3]
  rw[s2.keep j (by have:=x.g_le P;omega),s.keep j hj]
 |.call w op ks,L,P,R,T,X,last,hw,hT,hX,hl,hb=>by
  obtain⟨⟨least,hQ,hc,_⟩,hd,ht⟩:=hw;obtain⟨o1,o2,o3,o4⟩:=zXb hc;have hf:ks.tx.length≤65536:=by rw[ET.tx] at hl;simp only[List.length_append] at hl;omega
  have hF:∀c ∈ ks.tx,c<256:=fun c hc=>hb c (by rw[ET.tx];simp [hc])
  have ha:T.map Node.s=(ks.g P).1++([⟨op,VZ,[],(ks.g P).2⟩]++R):=by rw[hT,ET.g];simp
  obtain⟨X1,last1,s⟩:=zC0 ks L P _ T X last ht ha hX hf hF;obtain⟨l1,l2⟩:=s.list hd;obtain⟨m,hm,hs,_⟩:=zBr (P:=(ks.g P).1) (x:=⟨op,VZ,[],(ks.g P).2⟩) (R:=R) (by rw[ha,List.append_assoc]);have h1:m.op=op:=congrArg SNode.op hs;have h2:m.kids.l=(ks.g P).2:=congrArg SNode.kids hs;refine⟨_,_,TxS.node (Q:=(ks.g P).1) trivial rfl rfl hm (ks.g_le P) ?_ ?_ hl s.len hX s.go s.keep⟩
  ·rw[h1,o1];rfl
  have hr:((List.range m.kids.l.length).map fun k=>kidX T X1 (ks.g P).1.length k 0)=ks.txs:=by
   apply List.ext_getElem?;intro k;rw[List.getElem?_map,h2];rcases Nat.lt_or_ge k (ks.g P).2.length with h|h
   ·obtain⟨c1,lv,sx,c2,c3⟩:=l2 k _ (List.getElem?_eq_getElem h);rw[List.getElem?_range h,c3];simp only[Option.map_some,Option.some.injEq];rw[zJw hm (by rw[h2];exact List.getElem?_eq_getElem h) c2 c1];unfold parT;rw[if_neg (Nat.not_lt_zero _)]
   rw[List.getElem?_eq_none (by simpa using h),List.getElem?_eq_none (by omega)];rfl
  unfold qK;rw[h1,if_neg o2,if_neg o3,if_neg o4,o1];dsimp only;rw[if_pos rfl,hr,zM7 ks L ht hd hF,ET.tx]
 |.one e,L,P,R,T,X,last,hw,hT,hX,hl,hb=>by
  obtain⟨hh,hq⟩:=hw;obtain⟨X1,last1,s⟩:=zC0 e L P R T X last hq hT hX hl hb;obtain⟨a,a1,a2,a3,a4⟩:=s.one hh;refine⟨X1,last1,s.go,s.len,s.keep,fun h=>h.elim,fun _=>⟨by rw[show (ET.one e).g P=e.g P from rfl,a1];rfl,fun k c hc=>?_⟩⟩;rw[show (ET.one e).g P=e.g P from rfl,a1] at hc;cases k with
  |zero =>
   simp only[List.getElem?_cons_zero,Option.some.injEq] at hc;subst hc;exact⟨by show ((a:Nat):Int)<((e.g P).1.length:Int);omega,_,_,a3,rfl⟩
  |succ k=>simp at hc
 |.cons e ks,L,P,R,T,X,last,hw,hT,hX,hl,hb=>by
  obtain⟨⟨hh,hq⟩,hd,ht⟩:=hw;have hf:e.tx.length≤65536∧ks.tx.length≤65536:=by rw[ET.tx] at hl;simp only[List.length_append] at hl;omega
  have ha:T.map Node.s=(ks.g (e.g P).1).1++R:=hT;obtain⟨S,hS⟩:=ks.g_pre (e.g P).1;have hA:T.map Node.s=(e.g P).1++(S++R):=by rw[ha,hS];simp
  obtain⟨X1,last1,s⟩:=zC0 e L P _ T X last hq hA hX hf.1 fun c hc=>hb c (by rw[ET.tx];simp [hc])
  obtain⟨X2,last2,s2⟩:=zC0 ks L (e.g P).1 _ T X1 last1 ht ha (s.len.trans hX) hf.2 fun c hc=>hb c (by rw[ET.tx];simp [hc])
  obtain⟨a,a1,a2,a3,a4⟩:=s.one hh;obtain⟨l1,l2⟩:=s2.list hd;have hz:=ks.g_le (e.g P).1;have hG:((ET.cons e ks).g P).2=(a:Int)::(ks.g (e.g P).1).2:=by show (e.g P).2++_=_;rw[a1];rfl
  have hR:((ET.cons e ks).g P).1=(ks.g (e.g P).1).1:=rfl;refine⟨X2,last2,s.go.trans s2.go,s2.len.trans s.len,fun j hj=>by rw[s2.keep j (by have:=e.g_le P;omega),s.keep j hj],fun h=>h.elim,fun _=>⟨by rw[hG,ET.txs,List.length_cons,List.length_cons,l1],fun k c hc=>?_⟩⟩;rw[hG] at hc;rw[hR];cases k with
  |zero =>
   simp only[List.getElem?_cons_zero,Option.some.injEq] at hc;subst hc;refine⟨by omega,e.lvl,e.tx,?_,rfl⟩;obtain⟨j,hj,hm,hx⟩:=a3;have:j=a:=by omega
   subst this;exact⟨j,rfl,hm,by rw[s2.keep j a2];exact hx⟩
  |succ k =>
   rw[List.getElem?_cons_succ] at hc;exact l2 k c hc
def zLG{e:ET}{L:List BT}{T:List Node}(hE:e.isE)(hw:e.wf L)(hT:T.map Node.s=(e.g []).1)(hl:e.tx.length≤65536)(hb:∀c ∈ e.tx,c<256):wH T=e.tx:=by
 obtain⟨X',last',s⟩:=zC0 e L [] [] T (List.replicate T.length []) [] hw (by rw[hT,List.append_nil]) (by simp) hl hb;obtain⟨a,_,_,_,h⟩:=s.one hE;have hC:(e.g []).1.length=T.length:=by rw[← hT,List.length_map]
 have:=s.go;unfold wH;rw[show ([]:List SNode).length=0 from rfl,List.drop_zero] at this;rw[this,hC,List.drop_length,wgo,h]
variable {vp:List Nat→Val×Int}
theorem zO1{p:List Nat}{ws:List BT}(h:LX vp p ws)(m n:Nat):LX vp (parT m n p) (parB m n ws):=by
 unfold parT parB;split
 ·have h1:LX vp (p++[41]) (ws++[sgB [41]]):=h.app (LY.one (by decide) (by decide)).lx fun r _=>Sep.cons (by decide)
  exact(LY.one (c:=40) (by decide) (by decide)).app h1
 exact h
theorem zCW{c:Nat}(h:c ∈ signs1):LX vp [c] [sgB [c]]:=by
 intro r hr;refine zKO vp h ?_;cases r with
 |nil=>simp [signs2]
 |cons d r=>rcases hr d r rfl with rfl|rfl|rfl|rfl|rfl<;>simp [signs2]
theorem zGF{c d:Nat}(h:[c,d] ∈ signs2):LY vp [c,d] [sgB [c,d]]:=fun r=>zXF vp h
theorem zEP(w:List Nat)(h:(match w with|[]=>false|c::_=>yT c&&w.all yF&&Nat.ble w.length 12)=true):LX vp w [nmB w]:=by
 cases w with
 |nil=>cases h
 |cons c p =>
  simp only[Bool.and_eq_true,List.all_eq_true] at h;exact zYN h.1.1 h.1.2 (by have:=h.2;rwa [Nat.ble_eq] at this)
theorem yIg{n:Nat}{o:Int}{w:List Nat}(h:(w,o) ∈ opsX n):LX vp (opWd o) [opBT n o]∧(opWd o).length≤3∧∀c ∈ opWd o,c<256:=by
 rcases n with _|_|_|_|_|_|n<;>simp only[opsX,List.mem_cons,List.mem_nil_iff,or_false,Prod.mk.injEq] at h
 ·obtain⟨_,rfl⟩:=h;exact⟨zEP _ (by decide),by decide,by decide⟩
 ·obtain⟨_,rfl⟩:=h;exact⟨zEP _ (by decide),by decide,by decide⟩
 ·rcases h with ⟨_,rfl⟩|⟨_,rfl⟩|⟨_,rfl⟩|⟨_,rfl⟩|⟨_,rfl⟩|⟨_,rfl⟩
  ·exact⟨zCW (by decide),by decide,by decide⟩
  ·exact⟨(zGF (by decide)).lx,by decide,by decide⟩
  ·exact⟨zCW (by decide),by decide,by decide⟩
  ·exact⟨(zGF (by decide)).lx,by decide,by decide⟩
  ·exact⟨zCW (by decide),by decide,by decide⟩
  exact⟨(zGF (by decide)).lx,by decide,by decide⟩
 ·rcases h with ⟨_,rfl⟩|⟨_,rfl⟩<;>exact⟨zCW (by decide),by decide,by decide⟩
 rcases h with ⟨_,rfl⟩|⟨_,rfl⟩<;>exact⟨zCW (by decide),by decide,by decide⟩
theorem zZy{w:List Nat}{op:Int}{a b:Nat}(h:xT w uK=some (op,a,b)):LX vp w [nmB w]∧w.length≤12∧∀c ∈ w,c<256:=by
 simp only[uK,xT] at h
 repeat' split at h
 all_goals (first|(cases h;done)|skip)<;>(rename_i hw;subst hw;exact⟨zEP _ (by decide),by decide,by decide⟩)
theorem zYH(hv:VtOK (vp:=vp) vtT){w:List Nat}{v:Val}(h:xT w zAj=some v):LX vp w [nmB w]∧vtT v=w∧∀c ∈ w,c<256:=by
 simp only[zAj,xT] at h
 repeat' split at h
 ·rename_i hw;subst hw;cases h;exact⟨zEP _ (by decide),hv.tru,by decide⟩
 ·rename_i hw;subst hw;cases h;exact⟨zEP _ (by decide),hv.fals,by decide⟩
 ·rename_i hw;subst hw;cases h;exact⟨zEP _ (by decide),hv.nul,by decide⟩
 cases h
theorem zKH(m n:Nat)(s:List Nat):(parT m n s).length≤s.length+2:=by unfold parT;split<;>simp
theorem zML{m n:Nat}{s:List Nat}(h:∀c ∈ s,c<256):∀c ∈ parT m n s,c<256:=by
 unfold parT;split
 ·intro c hc;simp only[List.mem_cons,List.mem_append,List.cons_append,List.not_mem_nil,or_false] at hc;rcases hc with rfl|hc|rfl
  ·decide
  ·exact h c hc
  decide
 exact h
theorem jS(hv:VtOK (vp:=vp) vtT){s:List Nat}{L:List BT}(hs:∀c ∈ s,c<256)(hL:lexB vp s=some L):∀e:ET,e.wf L→LX vp e.tx e.ws∧e.tx.length≤e.tl∧∀c ∈ e.tx,c<256
 |.lit b,hw=>by
  obtain⟨c,r,n,h1,h2,h3⟩:=zDP s hL hw.1;obtain⟨p,p1,p2,p3,p4⟩:=zTT h1 h2 hw.2;have hp:vtT b.2.2=p:=by
   rcases p4 with ⟨a1,a2,a3⟩|a
   ·rw[a3,hv.sym _ a1,a2]
   exact hv.parse _ _ a
  rw[ET.tx,hp];exact⟨p1,p3,fun c hc=>hs c (h3 c (p2 c hc))⟩
 |.word w v,hw=>by
  obtain⟨h1,h2,h3⟩:=zYH hv hw.2;rw[ET.tx,h2];exact⟨h1,Nat.le_refl _,h3⟩
 |.var b,hw=>by
  obtain⟨c,r,n,h1,h2,h3⟩:=zDP s hL hw.1;obtain⟨n1,n2,n3⟩:=zPf h2 hw.2;obtain⟨c',p,e,a1,a2,a3⟩:=n1;refine⟨?_,by rw[ET.tx,ET.tl];simp,?_⟩
  ·rw[ET.tx,ET.ws,n2,e];exact yEQ a1 a2 a3
  intro x hx;rw[ET.tx] at hx;rcases List.mem_cons.1 hx with rfl|hx
  ·decide
  exact hs x (h3 x (n3 x hx))
 |.self,_=>⟨yAP,Nat.le_refl _,by rw[ET.tx];decide⟩
 |.un n e,hw=>by
  obtain⟨hn,_,he⟩:=hw;obtain⟨h1,h2,h3⟩:=jS hv hs hL e he;have hp:=zO1 h1 e.lvl n;have hU:=zKH e.lvl n e.tx;have hu:=zML (m:=e.lvl) (n:=n) h3;rw[ET.tx,ET.ws,ET.tl];rcases hn with rfl|rfl
  ·refine⟨?_,by simp;omega,?_⟩
   ·have q:LX vp ([32]++parT e.lvl 2 e.tx) ([]++parB e.lvl 2 e.ws):=LY.sp.app hp;exact(zEP [110,111,116] (by decide)).app q fun r _=>Sep.cons (by decide)
   intro c hc;rcases List.mem_append.1 hc with hc|hc
   ·rw[if_pos rfl] at hc;simp at hc;omega
   exact hu c hc
  refine⟨?_,by simp;omega,?_⟩
  ·exact(LY.one (c:=45) (by decide) (by decide)).app hp
  intro c hc;rcases List.mem_append.1 hc with hc|hc
  ·rw[if_neg (by decide)] at hc;simp at hc;omega
  exact hu c hc
 |.bin n o x y,hw=>by
  obtain⟨_,⟨w,hw⟩,⟨_,hx⟩,_,hy⟩:=hw;obtain⟨o1,o2,o3⟩:=yIg (vp:=vp) hw;obtain⟨h1,h2,h3⟩:=jS hv hs hL x hx;obtain⟨k1,k2,k3⟩:=jS hv hs hL y hy;have hp:=zO1 h1 x.lvl (xLv n);have hU:=zKH x.lvl (xLv n) x.tx;have hu:=zML (m:=x.lvl) (n:=xLv n) h3;have kp:=zO1 k1 y.lvl (n+1);have kp2:=zKH y.lvl (n+1) y.tx;have kp3:=zML (m:=y.lvl) (n:=n+1) k3;rw[ET.tx,ET.ws,ET.tl];refine⟨?_,by simp only[List.length_append,List.length_cons,List.length_nil];omega,?_⟩
  ·have q1:LX vp ([32]++parT y.lvl (n+1) y.tx) ([]++parB y.lvl (n+1) y.ws):=LY.sp.app kp;have q2:=o1.app q1 fun r _=>Sep.cons (by decide)
   have q3:LX vp ([32]++(opWd o++([32]++parT y.lvl (n+1) y.tx))) ([]++([opBT n o]++([]++parB y.lvl (n+1) y.ws))):=LY.sp.app q2;have q4:=hp.app q3 fun r _=>Sep.cons (by decide)
   simpa only [List.append_assoc,List.nil_append,List.cons_append] using q4
  intro c hc;simp only[List.mem_append,List.mem_cons,List.not_mem_nil,or_false] at hc;rcases hc with (((hc|rfl)|hc)|rfl)|hc
  ·exact hu c hc
  ·decide
  ·exact o3 c hc
  ·decide
  exact kp3 c hc
 |.call w op ks,hw=>by
  obtain⟨⟨_,_,hc,_⟩,_,hk⟩:=hw;obtain⟨o1,o2,o3⟩:=zZy (vp:=vp) hc;obtain⟨h1,h2,h3⟩:=jS hv hs hL ks hk;rw[ET.tx,ET.ws,ET.tl];refine⟨?_,by simp only[List.length_append,List.length_cons,List.length_nil];omega,?_⟩
  ·have q1:LX vp (ks.tx++[41]) (ks.ws++[sgB [41]]):=h1.app (LY.one (by decide) (by decide)).lx fun r _=>Sep.cons (by decide)
   have q2:=(LY.one (vp:=vp) (c:=40) (by decide) (by decide)).app q1;have q3:=o1.app q2 fun r _=>Sep.cons (by decide)
   simpa only [List.append_assoc,List.nil_append,List.cons_append] using q3
  intro c hc;simp only[List.mem_append,List.mem_cons,List.not_mem_nil,or_false] at hc;rcases hc with ((hc|rfl)|hc)|rfl
  ·exact o3 c hc
  ·decide
  ·exact h3 c hc
  decide
 |.one e,hw=>jS hv hs hL e hw.2
 |.cons e ks,hw=>by
  obtain⟨⟨_,he⟩,_,hk⟩:=hw;obtain⟨h1,h2,h3⟩:=jS hv hs hL e he;obtain⟨k1,k2,k3⟩:=jS hv hs hL ks hk;rw[ET.tx,ET.ws,ET.tl];refine⟨?_,by simp only[List.length_append,List.length_cons,List.length_nil];omega,?_⟩
  ·have q1:LX vp ([32]++ks.tx) ([]++ks.ws):=LY.sp.app k1;have q2:=(LY.one (vp:=vp) (c:=44) (by decide) (by decide)).app q1;have q3:=h1.app q2 fun r _=>Sep.cons (by decide)
   simpa only [List.append_assoc,List.nil_append,List.cons_append] using q3
  intro c hc;simp only[List.mem_append,List.mem_cons,List.not_mem_nil,or_false] at hc;rcases hc with (hc|rfl|rfl)|hc
  ·exact h3 c hc
  ·decide
  ·decide
  exact k3 c hc
end Go.Ab
