/- Lemmas. -/
import Derived.Test.YtchgjnkleakhoaaGreatDoorG27
set_option maxRecDepth 1000000
set_option maxHeartbeats 40000000
set_option linter.all false
namespace Go.Ab
def EndT(r:List BT):Prop:=r=[]∨∃b r',r=b::r'∧b.1=7∧b.2.1=[41]
theorem EndT.b{r:List BT}(h:EndT r):EndB r:=h.elim .inl fun⟨b,r',h1,h2,h3⟩=>.inr ⟨b,r',h1,h2,.inr h3⟩
theorem EndT.comma{r:List BT}(h:EndT r):isB r [44]=false:=by
 rcases h with rfl|⟨b,r',rfl,h1,h2⟩
 ·rfl
 simp [isB,h2]
def zQB{l:List Tok}{j:Nat}{w r:List BT}(h:(l.map Tok.b).drop j=w++r)(hw:NC w∧w≠[])(hr:EndB r):qR l j=false:=by
 unfold qR;split
 ·rename_i t ht;have:isW l (j+1) [58]=false:=by
   rw[kF];cases w with
   |nil=>exact absurd rfl hw.2
   |cons a w =>
    obtain⟨u,u1,u2,u3⟩:=vM (show (l.map Tok.b).drop j=a::(w++r) from h);rw[u3];cases w with
    |nil=>exact hr.isB (by decide) (by decide)
    |cons b w=>exact hw.1 b (List.mem_cons_of_mem _ (List.mem_cons_self ..))
  rw[this,Bool.and_false]
 rfl
def OX(u:UT)(w:List BT):Prop:=∀(l:List Tok) (L:List BT) (i n:Nat) (T:List Test) (r:List BT),(l.map Tok.b).drop i=w++r→u.isO→u.wf L→EndB r→u.nd+n≤4 →
 ∃(k:Nat) (T':List Test),T'.map Test.s=(u.g (T.map Test.s)).1∧(u.g (T.map Test.s)).2=[(k:Int)]∧EU l .one i n T (.ok k (i+w.length) n T')
def TX(u:UT)(w:List BT):Prop:=∀(l:List Tok) (L:List BT) (i n:Nat) (T:List Test) (r:List BT),(l.map Tok.b).drop i=w++r→u.isT→u.wf L→EndT r→u.nd+n≤4 →
 ∃(k:Nat) (T':List Test),T'.map Test.s=(u.g (T.map Test.s)).1∧(u.g (T.map Test.s)).2=[(k:Int)]∧EU l .tests i n T (.ok k (i+w.length) n T')
def KX'(u:UT)(w:List BT):Prop:=∀(l:List Tok) (L:List BT) (i n:Nat) (T:List Test) (r:List BT) (ks:List Nat),(l.map Tok.b).drop i=sgB [44]::(w++r)→0<u.num→u.wf L→EndT r→u.nd+n≤4 →
 ∃(K:List Nat) (T':List Test),T'.map Test.s=(u.g (T.map Test.s)).1∧xA K=(u.g (T.map Test.s)).2∧K.length=u.num∧EU l (.list ks) i n T (.oks (ks++K) (i+1+w.length) n T')
def FX(u:UT)(w:List BT):Prop:=∀(l:List Tok) (L:List BT) (i n:Nat) (T:List Test) (r:List BT),(l.map Tok.b).drop i=w++r→2≤u.num→u.wf L→EndT r→u.nd+n≤4 →
 ∃(k0 i1:Nat) (T1:List Test) (K:List Nat) (T':List Test),EU l .one i n T (.ok k0 i1 n T1)∧EU l (.list [k0]) i1 n T1 (.oks ([k0]++K) (i+w.length) n T')∧T'.map Test.s=(u.g (T.map Test.s)).1∧xA ([k0]++K)=(u.g (T.map Test.s)).2∧K.length+1=u.num
def zN9{l:List Tok}{i n:Nat}{ks:List Nat}{T:List Test}(h:isW l i [44]=false):EU l (.list ks) i n T (.oks ks i n T):=⟨1,by rw[UX,h];rfl⟩
def zQI{l:List Tok}{i n i1:Nat}{ks:List Nat}{T T1:List Test}{k:Nat}{r:RU}(h:isW l i [44]=true)(hs:qR l (i+1)=false)(h1:EU l .one (i+1) n T (.ok k i1 n T1))(h2:EU l (.list (ks++[k])) i1 n T1 r):EU l (.list ks) i n T r:=by
 obtain⟨f,h1⟩:=h1;obtain⟨g,h2⟩:=h2;refine⟨max f g+1,?_⟩;rw[UX,h,hs,vJ _ _ _ _ _ _ h1 _ (Nat.le_max_left f g)];exact vJ _ _ _ _ _ _ h2 _ (Nat.le_max_right f g)
def zLu{u:UT}{w:List BT}(h:OX u w)(hO:u.isO):TX u w:=by
 intro l L i n T r h1 _ h3 h4 h5;obtain⟨k,T',q1,q2,f,q3⟩:=h l L i n T r h1 hO h3 h4.b h5;have hat:=qH h1;obtain⟨g,hg⟩:=zN9 (l:=l) (i:=i+w.length) (n:=n) (ks:=[k]) (T:=T') (by rw[kF,hat];exact h4.comma);refine⟨k,T',q1,q2,max f g+1,?_⟩;rw[UX,vJ _ _ _ _ _ _ q3 _ (Nat.le_max_left f g)];dsimp only;rw[vJ _ _ _ _ _ _ hg _ (Nat.le_max_right f g)]
def yEK{l:List Tok}{i:Nat}{op:Int}{r:List BT}(hop:2≤op∧op≤6)(h:(l.map Tok.b).drop i=sgB (zIM op)::r):anyX l i=false∧notX l i=false∧xQ l i=false∧jF l i zBD=some op:=by
 have hw:∀w,isW l i w=(zIM op==w):=fun w=>by rw[zAh h];rfl
 have ha:isW l i [45]=false:=by rw[hw];rcases(by omega:op=2∨op=3∨op=4∨op=5∨op=6) with rfl|rfl|rfl|rfl|rfl<;>rfl
 have hb:isW l i [110,111,116]=false:=by rw[hw];rcases(by omega:op=2∨op=3∨op=4∨op=5∨op=6) with rfl|rfl|rfl|rfl|rfl<;>rfl
 have hc:isW l i [91]=false∧isW l i [40]=false:=by rw[hw,hw];rcases(by omega:op=2∨op=3∨op=4∨op=5∨op=6) with rfl|rfl|rfl|rfl|rfl<;>exact⟨rfl,rfl⟩
 refine⟨by unfold anyX;rw[ha];rfl,by unfold notX;rw[hb];rfl,by unfold xQ;rw[hc.1,hc.2];rfl,?_⟩;simp only[jF,zBD,hw];rcases(by omega:op=2∨op=3∨op=4∨op=5∨op=6) with rfl|rfl|rfl|rfl|rfl<;>rfl
theorem UT.reads{u:UT}{w:List BT}(h:UWs u w):OX u w∧TX u w∧KX' u w∧FX u w:=by
 have noK:∀ {u:UT} {w:List BT},u.num=0→KX' u w:=fun hn _ _ _ _ _ _ _ _ h=>by omega
 have noF:∀ {u:UT} {w:List BT},u.num<2→FX u w:=fun hn _ _ _ _ _ _ _ h=>by omega
 induction h with
 |any =>
  have hO:OX .any [sgB [45]]:=by
   intro l L i n T r h1 _ _ h4 _;have hw:isW l i [45]=true:=by rw[zAh h1];rfl
   obtain⟨t,t1,t2,t3⟩:=vM h1;have ha:anyX l i=true:=by
    unfold anyX;rw[hw];have:=zLt hw fun t ht=>by
     rcases h4 with rfl|⟨b,r',rfl,hb1,hb2⟩
     ·have:=getElem?_lt ht;have h0:=congrArg List.length t3;simp at h0;omega
     obtain⟨u,u1,u2,_⟩:=vM (show (l.map Tok.b).drop (i+1)=b::r' from t3);rw[u1] at ht;cases ht;unfold Tok.b at u2;rw[← u2] at hb1 hb2;exact⟨.inr hb1,hb2⟩
    simpa using this
   refine⟨T.length,T++[xJ 1 [] [] false false [] (plW l i)],?_,by simp [UT.g],1,by rw[UX,if_pos ha];rfl⟩;rw[List.map_append,UT.g,List.map_cons,vZ];rfl
  exact⟨hO,zLu hO trivial,noK rfl,noF (show (0:Nat)<2 by decide)⟩
 |cmp op e =>
  have hO:OX (.cmp op e) (sgB (zIM op)::e.ws):=by
   intro l L i n T r h1 _ h3 h4 _;obtain⟨hop,he⟩:=h3;obtain⟨a1,a2,a3,a4⟩:=yEK hop (show (l.map Tok.b).drop i=sgB (zIM op)::(e.ws++r) from h1);obtain⟨t,t1,t2,t3⟩:=vM (show (l.map Tok.b).drop i=sgB (zIM op)::(e.ws++r) from h1);obtain⟨N,p1,p2⟩:=zJU he t3 h4.noop (getElem?_lt t1);refine⟨T.length,T++[xJ op N [] false false [] (plW l i)],?_,by simp [UT.g],1,?_⟩
   ·rw[List.map_append,UT.g,List.map_cons,vZ,p2];rfl
   rw[UX,a1,a2,a3,a4];dsimp only;rw[if_neg (by decide),if_neg (by decide),if_neg (by decide)];unfold cmpX;rw[p1];dsimp only;rw[if_pos rfl,List.length_cons,show i+1+e.ws.length=i+(e.ws.length+1) by omega]
  exact⟨hO,zLu hO trivial,noK rfl,noF (show (0:Nat)<2 by decide)⟩
 |eqa e ha =>
  have hO:OX (.cmp 2 e) e.ws:=by
   intro l L i n T r h1 _ h3 h4 _;obtain⟨l0,f,T0,b1,b2,b3⟩:=ha.one;have hll:l0.length=e.ws.length:=by rw[← b1,List.length_map]
   have hi:i+l0.length≤l.length:=by
    have:=congrArg List.length h1;simp only[List.length_drop,List.length_map,List.length_append] at this;have hne:0<e.ws.length:=List.length_pos_iff.2 (ET.nc e h3.2.wf).2;omega
   have hsm:SmW l0 l 0 i:=by
    have h2:l.map Tok.b=(l.map Tok.b).take i++(l0.map Tok.b++r):=by rw[b1,← h1,List.take_append_drop]
    have:=zTK h2;rw[List.length_take,List.length_map,Nat.min_eq_left (by omega)] at this;exact this
   have hU:USim l0 l 0 i:=⟨hsm,by omega,fun t ht=>by
    have hat:=qH h1;rw[← hll,Nat.add_comm] at hat;rcases h4 with rfl|⟨b,r',rfl,hb1,hb2⟩
    ·have:=getElem?_lt ht;have h0:=congrArg List.length hat;simp at h0;omega
    obtain⟨u,u1,u2,_⟩:=vM hat;rw[u1] at ht;cases ht;unfold Tok.b at u2;rw[← u2] at hb1 hb2;exact⟨hb1,hb2⟩⟩
   have b4:=yG9 b2 (x:=eqS e) (by rw[b3];rfl) rfl n;obtain⟨g,T1,c1,c2⟩:=(zOe hU (pre:=T.map Test.s) f).1 0 n 0 l0.length n [] T0 T b4 (Nat.le_refl _) (Nat.zero_le _) (.inl rfl) (by unfold TSim;simp);have hT1:T1.map Test.s=T.map Test.s++[eqS e]:=by unfold TSim at c2;rw[c2,b3];rfl
   refine⟨T.length,T1,by rw[hT1];rfl,by simp [UT.g],g,?_⟩;simp only[Nat.zero_add,List.length_map] at c1;rw[c1,hll,Nat.add_comm]
  exact⟨hO,zLu hO trivial,noK rfl,noF (show (0:Nat)<2 by decide)⟩
 |rng lo hi a b =>
  have hO:OX (.rng lo hi a b) (lowB lo::(a.ws++sgB [46,46]::(b.ws++[zRw hi]))):=by
   intro l L i n T r h1 _ h3 h4 _;obtain⟨ha,hb⟩:=h3;have h1':(l.map Tok.b).drop i=lowB lo::(a.ws++(sgB [46,46]::(b.ws++(zRw hi::r)))):=by rw[h1];simp
   obtain⟨t,t1,t2,t3⟩:=vM h1';obtain⟨N,p1,p2⟩:=zJU ha t3 (zQ7 (.inl rfl)) (getElem?_lt t1);have hat:=qH t3;obtain⟨t',t1',t2',t3'⟩:=vM hat;obtain⟨M,q1,q2⟩:=zJU hb t3' (by cases hi<;>exact zQ7 (by simp)) (getElem?_lt t1');have hat2:=qH t3';have w1:isW l i [45]=false∧isW l i [110,111,116]=false∧(isW l i [91]||isW l i [40])=true∧isW l i [40]=lo:=by
    rw[zAh h1',zAh h1',zAh h1',zAh h1'];cases lo<;>exact⟨rfl,rfl,rfl,rfl⟩
   have w2:isW l (i+1+a.ws.length) [46,46]=true:=by rw[zAh hat];rfl
   have w3:(isW l (i+1+a.ws.length+1+b.ws.length) [93]||isW l (i+1+a.ws.length+1+b.ws.length) [41])=true∧isW l (i+1+a.ws.length+1+b.ws.length) [41]=hi:=by
    rw[zAh hat2,zAh hat2];cases hi<;>exact⟨rfl,rfl⟩
   have r1:anyX l i=false:=by unfold anyX;rw[w1.1];rfl
   have r2:notX l i=false:=by unfold notX;rw[w1.2.1];rfl
   have r3:xQ l i=true:=by unfold xQ;rw[w1.2.2.1,p1];dsimp only;rw[w2];rfl
   refine⟨T.length,T++[xJ 7 N M lo hi [] (plW l i)],?_,by simp [UT.g],1,?_⟩
   ·rw[List.map_append,UT.g,List.map_cons,vZ,p2,q2];rfl
   rw[UX,r1,r2,r3];rw[if_neg (by decide),if_neg (by decide),if_pos rfl];unfold rngX;rw[p1];dsimp only;rw[q1];dsimp only;rw[if_pos rfl,if_pos w3.1,w3.2,w1.2.2.2];simp only[List.length_cons,List.length_append,List.length_nil]
   congr 2;omega
  exact⟨hO,zLu hO trivial,noK rfl,noF (show (0:Nat)<2 by decide)⟩
 |@not t w h ih =>
  have hO:OX (.not t) (nmB [110,111,116]::sgB [40]::(w++[sgB [41]])):=by
   intro l L i n T r h1 _ h3 h4 h5;have h1':(l.map Tok.b).drop i=nmB [110,111,116]::(sgB [40]::(w++(sgB [41]::r))):=by rw[h1];simp
   obtain⟨u,u1,u2,u3⟩:=vM h1';obtain⟨v,v1,v2,v3⟩:=vM u3;have h5':t.nd+1+n≤4:=h5;obtain⟨k,T',q1,q2,f,q3⟩:=ih.2.1 l L (i+1+1) (n+1) T _ v3 h3.1 h3.2 (.inr ⟨_,_,rfl,rfl,rfl⟩) (by omega);have hat:=qH v3;have w1:isW l i [45]=false∧isW l i [110,111,116]=true:=by rw[zAh h1',zAh h1'];exact⟨rfl,rfl⟩
   have w2:isW l (i+1) [40]=true:=by rw[zAh u3];rfl
   have w3:isW l (i+1+1+w.length) [41]=true:=by rw[zAh hat];rfl
   have r1:anyX l i=false:=by unfold anyX;rw[w1.1];rfl
   have r2:notX l i=true:=by unfold notX;rw[w1.2,w2];rfl
   refine⟨T'.length,T'++[xJ 8 [] [] false false [k] (plW l i)],?_,by rw[UT.g,← q1,List.length_map],f+1,?_⟩
   ·rw[List.map_append,q1,UT.g,List.map_cons,vZ,q2];rfl
   rw[UX,r1,r2];rw[if_neg (by decide),if_pos rfl,if_neg (by omega),show i+2=i+1+1 from rfl,q3];dsimp only;rw[if_pos w3];simp only[List.length_cons,List.length_append,List.length_nil]
   congr 2;omega
  exact⟨hO,zLu hO trivial,noK rfl,noF (show (0:Nat)<2 by decide)⟩
 |@list ks w h ih =>
  refine⟨fun _ _ _ _ _ _ _ h=>h.elim,?_,noK rfl,noF (show (0:Nat)<2 by decide)⟩;intro l L i n T r h1 _ h3 h4 h5;obtain⟨k0,i1,T1,K,T',⟨f,q1⟩,⟨g,q2⟩,q3,q4,q5⟩:=ih.2.2.2 l L i n T r h1 h3.1 h3.2 h4 h5;refine⟨T'.length,T'++[xJ 9 [] [] false false ([k0]++K) (plW l i)],?_,by rw[UT.g,← q3,List.length_map],max f g+1,?_⟩
  ·rw[List.map_append,q3,UT.g,List.map_cons,vZ,q4];rfl
  have hK:K≠[]:=by rintro rfl;have:=h3.1;simp at q5;omega
  rw[UX,vJ _ _ _ _ _ _ q1 _ (Nat.le_max_left f g)];dsimp only;rw[vJ _ _ _ _ _ _ q2 _ (Nat.le_max_right f g)];cases K with
  |nil=>exact absurd rfl hK
  |cons a K=>rfl
 |@one t w h ih =>
  refine⟨fun _ _ _ _ _ _ _ h=>h.elim,fun _ _ _ _ _ _ _ h=>h.elim,?_,noF (show (1:Nat)<2 by decide)⟩;intro l L i n T r ks h1 _ h3 h4 h5;obtain⟨v,v1,v2,v3⟩:=vM h1;obtain⟨k,T',q1,q2,q3⟩:=ih.1 l L (i+1) n T r v3 h3.1 h3.2 h4.b h5;have hat:=qH v3;refine⟨[k],T',q1,q2.symm,rfl,zQI (by rw[zAh h1];rfl) (zQB v3 (h.nc h3.2) h4.b) q3 ?_⟩;exact zN9 (by rw[kF,hat];exact h4.comma)
 |@cons t ks w w' h h' ih ih' =>
  refine⟨fun _ _ _ _ _ _ _ h=>h.elim,fun _ _ _ _ _ _ _ h=>h.elim,?_,?_⟩
  ·intro l L i n T r ks0 h1 _ h3 h4 h5;obtain⟨⟨t1,t2⟩,k1,k2⟩:=h3;have hnd:t.nd+n≤4∧ks.nd+n≤4:=by simp only[UT.nd] at h5;omega
   have h1':(l.map Tok.b).drop i=sgB [44]::(w++(sgB [44]::(w'++r))):=by rw[h1];simp
   obtain⟨v,v1,v2,v3⟩:=vM h1';have hc:EndB (sgB [44]::(w'++r)):=.inr ⟨_,_,rfl,rfl,.inl rfl⟩;obtain⟨k,T',q1,q2,q3⟩:=ih.1 l L (i+1) n T _ v3 t1 t2 hc hnd.1;have hat:=qH v3;obtain⟨K,T2,p1,p2,p3,p4⟩:=ih'.2.2.1 l L (i+1+w.length) n T' r (ks0++[k]) hat k1 k2 h4 hnd.2;refine⟨k::K,T2,by rw[p1,q1];rfl,?_,by simp only[List.length_cons,UT.num,p3],zQI (by rw[zAh h1'];rfl) (zQB v3 (h.nc t2) hc) q3 ?_⟩
   ·show (k:Int)::xA K=(t.g _).2++(ks.g (t.g _).1).2
    rw[p2,q2,q1];rfl
   rw[List.append_assoc] at p4;simp only[List.length_append,List.length_cons];rw[show i+1+(w.length+(w'.length+1))=i+1+w.length+1+w'.length by omega];exact p4
  intro l L i n T r h1 _ h3 h4 h5;obtain⟨⟨t1,t2⟩,k1,k2⟩:=h3;have hnd:t.nd+n≤4∧ks.nd+n≤4:=by simp only[UT.nd] at h5;omega
  have h1':(l.map Tok.b).drop i=w++(sgB [44]::(w'++r)):=by rw[h1];simp
  have hc:EndB (sgB [44]::(w'++r)):=.inr ⟨_,_,rfl,rfl,.inl rfl⟩;obtain⟨k,T',q1,q2,q3⟩:=ih.1 l L i n T _ h1' t1 t2 hc hnd.1;have hat:=qH h1';obtain⟨K,T2,p1,p2,p3,p4⟩:=ih'.2.2.1 l L (i+w.length) n T' r [k] hat k1 k2 h4 hnd.2;refine⟨k,i+w.length,T',K,T2,q3,?_,by rw[p1,q1];rfl,?_,by simp only[UT.num,p3]⟩
  ·simp only[List.length_append,List.length_cons];rw[show i+(w.length+(w'.length+1))=i+w.length+1+w'.length by omega];exact p4
  show (k:Int)::xA K=(t.g _).2++(ks.g (t.g _).1).2
  rw[p2,q2,q1];rfl
def zZh{l l':List Tok}{f k n:Nat}{T:List Test}(hb:l'.map Tok.b=l.map Tok.b)(h:UX l f .tests 0 0 []=some (.ok k l.length n T)):∃g T',UX l' g .tests 0 0 []=some (.ok k l.length n T')∧T'.map Test.s=T.map Test.s:=by
 have hlen:l'.length=l.length:=by have:=congrArg List.length hb;simpa using this
 have hsm:SmW l l' 0 0:=zTK (a:=[]) (b:=[]) (by rw[List.nil_append,List.append_nil];exact hb);have hU:USim l l' 0 0:=⟨hsm,by omega,fun t ht=>by rw[Nat.add_zero,List.getElem?_eq_none (by omega)] at ht;cases ht⟩
 cases f with
 |zero=>simp [UX] at h
 |succ f =>
  obtain⟨sO,sT,sL⟩:=zOe hU (pre:=[]) f;rw[UX] at h;cases hh:UX l f .one 0 0 [] with
  |none=>rw[hh] at h;cases h
  |some r =>
   rw[hh] at h;have hk:=yH _ _ _ _ _ _ hh (Nat.zero_le _);cases r with
   |pan e j=>cases h
   |oks ks j m T1=>exact absurd hk.1 id
   |ok a j m T1 =>
    obtain⟨_,k1,k2,k3,k4,k5,k6⟩:=hk;dsimp only at h;cases hl:UX l f (.list [a]) j m T1 with
    |none=>rw[hl] at h;cases h
    |some r2 =>
     rw[hl] at h;have hk2:=yH _ _ _ _ _ _ hl k2;cases r2 with
     |pan e j=>cases h
     |ok k' j' m' T2=>exact absurd hk2.1 id
     |oks K j' m' T2 =>
      have hst:=zFZ hl;have hK:j'=l.length:=by
       match K,h with
       |[],h=>dsimp only at h;cases h;rfl
       |[x],h=>dsimp only at h;cases h;rfl
       |x::y::K,h=>dsimp only at h;cases h;rfl
      subst hK;have hstop:zRB l j:=by
       rcases hst with h1|h1
       ·exact .inr (.inl h1)
       exact .inl h1.symm
      obtain⟨g,T1',c1,c2⟩:=sO 0 0 a j m [] T1 [] hh (Nat.le_refl _) (Nat.zero_le _) hstop rfl;obtain⟨T2',d1,d2⟩:=sL j m [a] K l.length m' T1 T2 T1' hl (Nat.zero_le _) k2 (.inl rfl) c2;have e0:isW l' (l.length+0) [44]=false:=by
       unfold isW;rw[Nat.add_zero,List.getElem?_eq_none (by omega)]
      obtain⟨g2,hg2⟩:=d2 1 _ (by rw[UX,e0];rfl);simp only[List.length_nil,Nat.add_zero,List.map_id'] at c1 hg2;have hd:T2'.map Test.s=T2.map Test.s:=by
       unfold TSim at d1;rw[d1,List.nil_append]
       conv=>rhs;rw[← List.map_id (T2.map Test.s)]
       apply List.map_congr_left;intro x _;unfold STst.sh;simp
      have hlt:T2'.length=T2.length:=by have:=congrArg List.length hd;simpa using this
      match K,h,hg2 with
      |[],h,hg2 =>
       dsimp only at h;cases h;refine⟨max g g2+1,T2'++[xJ 9 [] [] false false [] (plW l' 0)],?_,by rw[List.map_append,List.map_append,hd];simp [vZ]⟩;rw[UX,vJ _ _ _ _ _ _ c1 _ (Nat.le_max_left g g2)];dsimp only;rw[vJ _ _ _ _ _ _ hg2 _ (Nat.le_max_right g g2)];dsimp only;rw[hlt]
      |[x],h,hg2 =>
       dsimp only at h;cases h;refine⟨max g g2+1,T2',?_,hd⟩;rw[UX,vJ _ _ _ _ _ _ c1 _ (Nat.le_max_left g g2)];dsimp only;rw[vJ _ _ _ _ _ _ hg2 _ (Nat.le_max_right g g2)]
      |x::y::K,h,hg2 =>
       dsimp only at h;cases h;refine⟨max g g2+1,T2'++[xJ 9 [] [] false false (x::y::K) (plW l' 0)],?_,by rw[List.map_append,List.map_append,hd];simp [vZ]⟩;rw[UX,vJ _ _ _ _ _ _ c1 _ (Nat.le_max_left g g2)];dsimp only;rw[vJ _ _ _ _ _ _ hg2 _ (Nat.le_max_right g g2)];dsimp only;rw[hlt]
def zTv{l:List Tok}{f k n i':Nat}{T:List Test}(h:UX l f .tests 0 0 []=some (.ok k i' n T))(h30:T.length≤30):xS l 0=(T,i',0):=by
 obtain⟨r,hr⟩:=zD0 (l:=l) (4 * (l.length - 0)+3) .tests 0 0 [] (by simp [UC.need]) (Nat.zero_le _);have e1:=vJ _ _ _ _ _ _ h (max f (4 * (l.length - 0)+3)) (Nat.le_max_left ..);have e2:=vJ _ _ _ _ _ _ hr (max f (4 * (l.length - 0)+3)) (Nat.le_max_right ..);rw[e1] at e2;cases e2;unfold xS UXF;rw[hr];dsimp only;rw[if_neg (by omega)]
def zPV{l l':List Tok}{T:List Test}(hb:l'.map Tok.b=l.map Tok.b)(h:xS l 0=(T,l.length,0)):∃T',xS l' 0=(T',l.length,0)∧T'.map Test.s=T.map Test.s:=by
 obtain⟨f,k,n,h1,h2⟩:=zHO (l:=l) (Nat.zero_le _) (by rw[h]);rw[h] at h1 h2;obtain⟨g,T',h3,h4⟩:=zZh hb h1;exact⟨T',zTv h3 (by have:=congrArg List.length h4;simp at this;dsimp only at h2;omega),h4⟩
end Go.Ab
