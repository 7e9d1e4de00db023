/- Lemmas. -/
import Derived.Test.YtdbfacakphncfaaGreatDoorG27
set_option maxRecDepth 1000000
set_option maxHeartbeats 40000000
set_option linter.all false
namespace Go.Ab
def EndT(r:List BT):Prop:=r=[]∨∃b r',r=b::r'∧b.1=7∧b.2.1=[41]
theorem EndT.b{r:List BT}(h:EndT r):EndB r:=h.elim .inl fun⟨b,r',h1,h2,h3⟩=>.inr ⟨b,r',h1,h2,.inr h3⟩
theorem EndT.comma{r:List BT}(h:EndT r):isB r [44]=false:=by
 rcases h with rfl|⟨b,r',rfl,h1,h2⟩
 ·rfl
 simp [isB,h2]
def zRf{l:List Tok}{j:Nat}{w r:List BT}(h:(l.map Tok.b).drop j=w++r)(hw:NC w∧w≠[])(hr:EndB r):qE l j=false:=by
 unfold qE;split
 ·rename_i t ht;have:isW l (j+1) [58]=false:=by
   rw[qL];cases w with
   |nil=>exact absurd rfl hw.2
   |cons a w =>
    obtain⟨u,u1,u2,u3⟩:=wO (show (l.map Tok.b).drop j=a::(w++r) from h);rw[u3];cases w with
    |nil=>exact hr.isB (by decide) (by decide)
    |cons b w=>exact hw.1 b (List.mem_cons_of_mem _ (List.mem_cons_self ..))
  rw[this,Bool.and_false]
 rfl
def OX(u:UT)(w:List BT):Prop:=∀(l:List Tok) (L:List BT) (i n:Nat) (T:List Test) (r:List BT),(l.map Tok.b).drop i=w++r→u.isO→u.wf L→EndB r→u.nd+n≤4 →
 ∃(k:Nat) (T':List Test),T'.map Test.s=(u.g (T.map Test.s)).1∧(u.g (T.map Test.s)).2=[(k:Int)]∧EU l .one i n T (.ok k (i+w.length) n T')
def TX(u:UT)(w:List BT):Prop:=∀(l:List Tok) (L:List BT) (i n:Nat) (T:List Test) (r:List BT),(l.map Tok.b).drop i=w++r→u.isT→u.wf L→EndT r→u.nd+n≤4 →
 ∃(k:Nat) (T':List Test),T'.map Test.s=(u.g (T.map Test.s)).1∧(u.g (T.map Test.s)).2=[(k:Int)]∧EU l .tests i n T (.ok k (i+w.length) n T')
def KX'(u:UT)(w:List BT):Prop:=∀(l:List Tok) (L:List BT) (i n:Nat) (T:List Test) (r:List BT) (ks:List Nat),(l.map Tok.b).drop i=sgB [44]::(w++r)→0<u.num→u.wf L→EndT r→u.nd+n≤4 →
 ∃(K:List Nat) (T':List Test),T'.map Test.s=(u.g (T.map Test.s)).1∧xE K=(u.g (T.map Test.s)).2∧K.length=u.num∧EU l (.list ks) i n T (.oks (ks++K) (i+1+w.length) n T')
def FX(u:UT)(w:List BT):Prop:=∀(l:List Tok) (L:List BT) (i n:Nat) (T:List Test) (r:List BT),(l.map Tok.b).drop i=w++r→2≤u.num→u.wf L→EndT r→u.nd+n≤4 →
 ∃(k0 i1:Nat) (T1:List Test) (K:List Nat) (T':List Test),EU l .one i n T (.ok k0 i1 n T1)∧EU l (.list [k0]) i1 n T1 (.oks ([k0]++K) (i+w.length) n T')∧T'.map Test.s=(u.g (T.map Test.s)).1∧xE ([k0]++K)=(u.g (T.map Test.s)).2∧K.length+1=u.num
def zPK{l:List Tok}{i n:Nat}{ks:List Nat}{T:List Test}(h:isW l i [44]=false):EU l (.list ks) i n T (.oks ks i n T):=⟨1,by rw[UX,h];rfl⟩
def zQ9{l:List Tok}{i n i1:Nat}{ks:List Nat}{T T1:List Test}{k:Nat}{r:RU}(h:isW l i [44]=true)(hs:qE l (i+1)=false)(h1:EU l .one (i+1) n T (.ok k i1 n T1))(h2:EU l (.list (ks++[k])) i1 n T1 r):EU l (.list ks) i n T r:=by
 obtain⟨f,h1⟩:=h1;obtain⟨g,h2⟩:=h2;refine⟨max f g+1,?_⟩;rw[UX,h,hs,xV _ _ _ _ _ _ h1 _ (Nat.le_max_left f g)];exact xV _ _ _ _ _ _ h2 _ (Nat.le_max_right f g)
def zLb{u:UT}{w:List BT}(h:OX u w)(hO:u.isO):TX u w:=by
 intro l L i n T r h1 _ h3 h4 h5;obtain⟨k,T',q1,q2,f,q3⟩:=h l L i n T r h1 hO h3 h4.b h5;have hf:=uE h1;obtain⟨g,hg⟩:=zPK (l:=l) (i:=i+w.length) (n:=n) (ks:=[k]) (T:=T') (by rw[qL,hf];exact h4.comma);refine⟨k,T',q1,q2,max f g+1,?_⟩;rw[UX,xV _ _ _ _ _ _ q3 _ (Nat.le_max_left f g)];dsimp only;rw[xV _ _ _ _ _ _ hg _ (Nat.le_max_right f g)]
def yG0{l:List Tok}{i:Nat}{op:Int}{r:List BT}(hX:2≤op∧op≤6)(h:(l.map Tok.b).drop i=sgB (zDn op)::r):anyX l i=false∧notX l i=false∧xQ l i=false∧kL l i zBq=some op:=by
 have hw:∀w,isW l i w=(zDn op==w):=fun w=>by rw[qI h];rfl
 have ha:isW l i [45]=false:=by rw[hw];rcases(by omega:op=2∨op=3∨op=4∨op=5∨op=6) with rfl|rfl|rfl|rfl|rfl<;>rfl
 have hb:isW l i [110,111,116]=false:=by rw[hw];rcases(by omega:op=2∨op=3∨op=4∨op=5∨op=6) with rfl|rfl|rfl|rfl|rfl<;>rfl
 have hc:isW l i [91]=false∧isW l i [40]=false:=by rw[hw,hw];rcases(by omega:op=2∨op=3∨op=4∨op=5∨op=6) with rfl|rfl|rfl|rfl|rfl<;>exact⟨rfl,rfl⟩
 refine⟨by unfold anyX;rw[ha];rfl,by unfold notX;rw[hb];rfl,by unfold xQ;rw[hc.1,hc.2];rfl,?_⟩;simp only[kL,zBq,hw];rcases(by omega:op=2∨op=3∨op=4∨op=5∨op=6) with rfl|rfl|rfl|rfl|rfl<;>rfl
theorem UT.reads{u:UT}{w:List BT}(h:UWs u w):OX u w∧TX u w∧KX' u w∧FX u w:=by
 have noK:∀ {u:UT} {w:List BT},u.num=0→KX' u w:=fun hn _ _ _ _ _ _ _ _ h=>by omega
 have noF:∀ {u:UT} {w:List BT},u.num<2→FX u w:=fun hn _ _ _ _ _ _ _ h=>by omega
 induction h with
 |any =>
  have hO:OX .any [sgB [45]]:=by
   intro l L i n T r h1 _ _ h4 _;have hw:isW l i [45]=true:=by rw[qI h1];rfl
   obtain⟨t,t1,t2,t3⟩:=wO h1;have ha:anyX l i=true:=by
    unfold anyX;rw[hw];have:=zLa hw fun t ht=>by
     rcases h4 with rfl|⟨b,r',rfl,hz,hC⟩
     ·have:=getElem?_lt ht;have h0:=congrArg List.length t3;simp at h0;omega
     obtain⟨u,u1,u2,_⟩:=wO (show (l.map Tok.b).drop (i+1)=b::r' from t3);rw[u1] at ht;cases ht;unfold Tok.b at u2;rw[← u2] at hz hC;exact⟨.inr hz,hC⟩
    simpa using this
   refine⟨T.length,T++[xK 1 [] [] false false [] (plW l i)],?_,by simp [UT.g],1,by rw[UX,if_pos ha];rfl⟩;rw[List.map_append,UT.g,List.map_cons,wY];rfl
  exact⟨hO,zLb hO trivial,noK rfl,noF (show (0:Nat)<2 by decide)⟩
 |cmp op e =>
  have hO:OX (.cmp op e) (sgB (zDn op)::e.ws):=by
   intro l L i n T r h1 _ h3 h4 _;obtain⟨hX,he⟩:=h3;obtain⟨a1,a2,a3,a4⟩:=yG0 hX (show (l.map Tok.b).drop i=sgB (zDn op)::(e.ws++r) from h1);obtain⟨t,t1,t2,t3⟩:=wO (show (l.map Tok.b).drop i=sgB (zDn op)::(e.ws++r) from h1);obtain⟨N,p1,p2⟩:=zHD he t3 h4.noop (getElem?_lt t1);refine⟨T.length,T++[xK op N [] false false [] (plW l i)],?_,by simp [UT.g],1,?_⟩
   ·rw[List.map_append,UT.g,List.map_cons,wY,p2];rfl
   rw[UX,a1,a2,a3,a4];dsimp only;rw[if_neg (by decide),if_neg (by decide),if_neg (by decide)];unfold cmpX;rw[p1];dsimp only;rw[if_pos rfl,List.length_cons,show i+1+e.ws.length=i+(e.ws.length+1) by omega]
  exact⟨hO,zLb hO trivial,noK rfl,noF (show (0:Nat)<2 by decide)⟩
 |eqa e ha =>
  have hO:OX (.cmp 2 e) e.ws:=by
   intro l L i n T r h1 _ h3 h4 _;obtain⟨l0,f,T0,b1,b2,b3⟩:=ha.one;have hY:l0.length=e.ws.length:=by rw[← b1,List.length_map]
   have hi:i+l0.length≤l.length:=by
    have:=congrArg List.length h1;simp only[List.length_drop,List.length_map,List.length_append] at this;have ko:0<e.ws.length:=List.length_pos_iff.2 (ET.nc e h3.2.wf).2;omega
   have hD:SmW l0 l 0 i:=by
    have h2:l.map Tok.b=(l.map Tok.b).take i++(l0.map Tok.b++r):=by rw[b1,← h1,List.take_append_drop]
    have:=zPG h2;rw[List.length_take,List.length_map,Nat.min_eq_left (by omega)] at this;exact this
   have hU:USim l0 l 0 i:=⟨hD,by omega,fun t ht=>by
    have hf:=uE h1;rw[← hY,Nat.add_comm] at hf;rcases h4 with rfl|⟨b,r',rfl,hz,hC⟩
    ·have:=getElem?_lt ht;have h0:=congrArg List.length hf;simp at h0;omega
    obtain⟨u,u1,u2,_⟩:=wO hf;rw[u1] at ht;cases ht;unfold Tok.b at u2;rw[← u2] at hz hC;exact⟨hz,hC⟩⟩
   have b4:=yIi b2 (x:=eqS e) (by rw[b3];rfl) rfl n;obtain⟨g,T1,c1,c2⟩:=(zL9 hU (pre:=T.map Test.s) f).1 0 n 0 l0.length n [] T0 T b4 (Nat.le_refl _) (Nat.zero_le _) (.inl rfl) (by unfold TSim;simp);have hL:T1.map Test.s=T.map Test.s++[eqS e]:=by unfold TSim at c2;rw[c2,b3];rfl
   refine⟨T.length,T1,by rw[hL];rfl,by simp [UT.g],g,?_⟩;simp only[Nat.zero_add,List.length_map] at c1;rw[c1,hY,Nat.add_comm]
  exact⟨hO,zLb hO trivial,noK rfl,noF (show (0:Nat)<2 by decide)⟩
 |rng lo hi a b =>
  have hO:OX (.rng lo hi a b) (lowB lo::(a.ws++sgB [46,46]::(b.ws++[zKZ hi]))):=by
   intro l L i n T r h1 _ h3 h4 _;obtain⟨ha,hb⟩:=h3;have hm:(l.map Tok.b).drop i=lowB lo::(a.ws++(sgB [46,46]::(b.ws++(zKZ hi::r)))):=by rw[h1];simp
   obtain⟨t,t1,t2,t3⟩:=wO hm;obtain⟨N,p1,p2⟩:=zHD ha t3 (zQ5 (.inl rfl)) (getElem?_lt t1);have hf:=uE t3;obtain⟨t',t1',t2',t3'⟩:=wO hf;obtain⟨M,q1,q2⟩:=zHD hb t3' (by cases hi<;>exact zQ5 (by simp)) (getElem?_lt t1');have hE:=uE t3';have w1:isW l i [45]=false∧isW l i [110,111,116]=false∧(isW l i [91]||isW l i [40])=true∧isW l i [40]=lo:=by
    rw[qI hm,qI hm,qI hm,qI hm];cases lo<;>exact⟨rfl,rfl,rfl,rfl⟩
   have w2:isW l (i+1+a.ws.length) [46,46]=true:=by rw[qI hf];rfl
   have w3:(isW l (i+1+a.ws.length+1+b.ws.length) [93]||isW l (i+1+a.ws.length+1+b.ws.length) [41])=true∧isW l (i+1+a.ws.length+1+b.ws.length) [41]=hi:=by
    rw[qI hE,qI hE];cases hi<;>exact⟨rfl,rfl⟩
   have r1:anyX l i=false:=by unfold anyX;rw[w1.1];rfl
   have r2:notX l i=false:=by unfold notX;rw[w1.2.1];rfl
   have r3:xQ l i=true:=by unfold xQ;rw[w1.2.2.1,p1];dsimp only;rw[w2];rfl
   refine⟨T.length,T++[xK 7 N M lo hi [] (plW l i)],?_,by simp [UT.g],1,?_⟩
   ·rw[List.map_append,UT.g,List.map_cons,wY,p2,q2];rfl
   rw[UX,r1,r2,r3];rw[if_neg (by decide),if_neg (by decide),if_pos rfl];unfold rngX;rw[p1];dsimp only;rw[q1];dsimp only;rw[if_pos rfl,if_pos w3.1,w3.2,w1.2.2.2];simp only[List.length_cons,List.length_append,List.length_nil]
   congr 2;omega
  exact⟨hO,zLb hO trivial,noK rfl,noF (show (0:Nat)<2 by decide)⟩
 |@not t w h ih =>
  have hO:OX (.not t) (nmB [110,111,116]::sgB [40]::(w++[sgB [41]])):=by
   intro l L i n T r h1 _ h3 h4 h5;have hm:(l.map Tok.b).drop i=nmB [110,111,116]::(sgB [40]::(w++(sgB [41]::r))):=by rw[h1];simp
   obtain⟨u,u1,u2,u3⟩:=wO hm;obtain⟨v,v1,v2,v3⟩:=wO u3;have kp:t.nd+1+n≤4:=h5;obtain⟨k,T',q1,q2,f,q3⟩:=ih.2.1 l L (i+1+1) (n+1) T _ v3 h3.1 h3.2 (.inr ⟨_,_,rfl,rfl,rfl⟩) (by omega);have hf:=uE v3;have w1:isW l i [45]=false∧isW l i [110,111,116]=true:=by rw[qI hm,qI hm];exact⟨rfl,rfl⟩
   have w2:isW l (i+1) [40]=true:=by rw[qI u3];rfl
   have w3:isW l (i+1+1+w.length) [41]=true:=by rw[qI hf];rfl
   have r1:anyX l i=false:=by unfold anyX;rw[w1.1];rfl
   have r2:notX l i=true:=by unfold notX;rw[w1.2,w2];rfl
   refine⟨T'.length,T'++[xK 8 [] [] false false [k] (plW l i)],?_,by rw[UT.g,← q1,List.length_map],f+1,?_⟩
   ·rw[List.map_append,q1,UT.g,List.map_cons,wY,q2];rfl
   rw[UX,r1,r2];rw[if_neg (by decide),if_pos rfl,if_neg (by omega),show i+2=i+1+1 from rfl,q3];dsimp only;rw[if_pos w3];simp only[List.length_cons,List.length_append,List.length_nil]
   congr 2;omega
  exact⟨hO,zLb hO trivial,noK rfl,noF (show (0:Nat)<2 by decide)⟩
 |@list ks w h ih =>
  refine⟨fun _ _ _ _ _ _ _ h=>h.elim,?_,noK rfl,noF (show (0:Nat)<2 by decide)⟩;intro l L i n T r h1 _ h3 h4 h5;obtain⟨k0,i1,T1,K,T',⟨f,q1⟩,⟨g,q2⟩,q3,q4,q5⟩:=ih.2.2.2 l L i n T r h1 h3.1 h3.2 h4 h5;refine⟨T'.length,T'++[xK 9 [] [] false false ([k0]++K) (plW l i)],?_,by rw[UT.g,← q3,List.length_map],max f g+1,?_⟩
  ·rw[List.map_append,q3,UT.g,List.map_cons,wY,q4];rfl
  have hK:K≠[]:=by rintro rfl;have:=h3.1;simp at q5;omega
  rw[UX,xV _ _ _ _ _ _ q1 _ (Nat.le_max_left f g)];dsimp only;rw[xV _ _ _ _ _ _ q2 _ (Nat.le_max_right f g)];cases K with
  |nil=>exact absurd rfl hK
  |cons a K=>rfl
 |@one t w h ih =>
  refine⟨fun _ _ _ _ _ _ _ h=>h.elim,fun _ _ _ _ _ _ _ h=>h.elim,?_,noF (show (1:Nat)<2 by decide)⟩;intro l L i n T r ks h1 _ h3 h4 h5;obtain⟨v,v1,v2,v3⟩:=wO h1;obtain⟨k,T',q1,q2,q3⟩:=ih.1 l L (i+1) n T r v3 h3.1 h3.2 h4.b h5;have hf:=uE v3;refine⟨[k],T',q1,q2.symm,rfl,zQ9 (by rw[qI h1];rfl) (zRf v3 (h.nc h3.2) h4.b) q3 ?_⟩;exact zPK (by rw[qL,hf];exact h4.comma)
 |@cons t ks w w' h h' ih ih' =>
  refine⟨fun _ _ _ _ _ _ _ h=>h.elim,fun _ _ _ _ _ _ _ h=>h.elim,?_,?_⟩
  ·intro l L i n T r ks0 h1 _ h3 h4 h5;obtain⟨⟨t1,t2⟩,k1,k2⟩:=h3;have hF:t.nd+n≤4∧ks.nd+n≤4:=by simp only[UT.nd] at h5;omega
   have hm:(l.map Tok.b).drop i=sgB [44]::(w++(sgB [44]::(w'++r))):=by rw[h1];simp
   obtain⟨v,v1,v2,v3⟩:=wO hm;have hc:EndB (sgB [44]::(w'++r)):=.inr ⟨_,_,rfl,rfl,.inl rfl⟩;obtain⟨k,T',q1,q2,q3⟩:=ih.1 l L (i+1) n T _ v3 t1 t2 hc hF.1;have hf:=uE v3;obtain⟨K,T2,p1,p2,p3,p4⟩:=ih'.2.2.1 l L (i+1+w.length) n T' r (ks0++[k]) hf k1 k2 h4 hF.2;refine⟨k::K,T2,by rw[p1,q1];rfl,?_,by simp only[List.length_cons,UT.num,p3],zQ9 (by rw[qI hm];rfl) (zRf v3 (h.nc t2) hc) q3 ?_⟩
   ·show (k:Int)::xE K=(t.g _).2++(ks.g (t.g _).1).2
    rw[p2,q2,q1];rfl
   rw[List.append_assoc] at p4;simp only[List.length_append,List.length_cons];rw[show i+1+(w.length+(w'.length+1))=i+1+w.length+1+w'.length by omega];exact p4
  intro l L i n T r h1 _ h3 h4 h5;obtain⟨⟨t1,t2⟩,k1,k2⟩:=h3;have hF:t.nd+n≤4∧ks.nd+n≤4:=by simp only[UT.nd] at h5;omega
  have hm:(l.map Tok.b).drop i=w++(sgB [44]::(w'++r)):=by rw[h1];simp
  have hc:EndB (sgB [44]::(w'++r)):=.inr ⟨_,_,rfl,rfl,.inl rfl⟩;obtain⟨k,T',q1,q2,q3⟩:=ih.1 l L i n T _ hm t1 t2 hc hF.1;have hf:=uE hm;obtain⟨K,T2,p1,p2,p3,p4⟩:=ih'.2.2.1 l L (i+w.length) n T' r [k] hf k1 k2 h4 hF.2;refine⟨k,i+w.length,T',K,T2,q3,?_,by rw[p1,q1];rfl,?_,by simp only[UT.num,p3]⟩
  ·simp only[List.length_append,List.length_cons];rw[show i+(w.length+(w'.length+1))=i+w.length+1+w'.length by omega];exact p4
  show (k:Int)::xE K=(t.g _).2++(ks.g (t.g _).1).2
  rw[p2,q2,q1];rfl
theorem UT.again {u:UT} {w L:List BT} {l:List Tok} (h:UWs u w) (hl:l.map Tok.b=w) (h1:u.isT) (h2:u.wf L) (h3:u.nd≤4) (h4:(u.g []).1.length≤30) :
  ∃T,xB l 0=(T,l.length,0)∧T.map Test.s=(u.g []).1:=by
 obtain⟨k,T,q1,q2,f,q3⟩:=(UT.reads h).2.1 l L 0 0 [] [] (by rw[List.drop_zero,hl,List.append_nil]) h1 h2 (.inl rfl) (by omega);have hy:T.length≤30:=by have:=congrArg List.length q1;simp at this;omega
 refine⟨T,?_,q1⟩;obtain⟨r,hr⟩:=zBy (l:=l) (4 * (l.length - 0)+3) .tests 0 0 [] (by simp [UC.need]) (Nat.zero_le _);have e1:=xV _ _ _ _ _ _ q3 (max f (4 * (l.length - 0)+3)) (Nat.le_max_left ..);have e2:=xV _ _ _ _ _ _ hr (max f (4 * (l.length - 0)+3)) (Nat.le_max_right ..);rw[e1] at e2;cases e2;unfold xB UXF;rw[hr];dsimp only;rw[if_neg (by omega),← hl,List.length_map,Nat.zero_add]
def zZk{l l':List Tok}{f k n:Nat}{T:List Test}(hb:l'.map Tok.b=l.map Tok.b)(h:UX l f .tests 0 0 []=some (.ok k l.length n T)):∃g T',UX l' g .tests 0 0 []=some (.ok k l.length n T')∧T'.map Test.s=T.map Test.s:=by
 have hy:l'.length=l.length:=by have:=congrArg List.length hb;simpa using this
 have hD:SmW l l' 0 0:=zPG (a:=[]) (b:=[]) (by rw[List.nil_append,List.append_nil];exact hb);have hU:USim l l' 0 0:=⟨hD,by omega,fun t ht=>by rw[Nat.add_zero,List.getElem?_eq_none (by omega)] at ht;cases ht⟩
 cases f with
 |zero=>simp [UX] at h
 |succ f =>
  obtain⟨sO,sT,sL⟩:=zL9 hU (pre:=[]) f;rw[UX] at h;cases hh:UX l f .one 0 0 [] with
  |none=>rw[hh] at h;cases h
  |some r =>
   rw[hh] at h;have hk:=zZ _ _ _ _ _ _ hh (Nat.zero_le _);cases r with
   |pan e j=>cases h
   |oks ks j m T1=>exact absurd hk.1 id
   |ok a j m T1 =>
    obtain⟨_,k1,k2,k3,k4,k5,k6⟩:=hk;dsimp only at h;cases hl:UX l f (.list [a]) j m T1 with
    |none=>rw[hl] at h;cases h
    |some r2 =>
     rw[hl] at h;have h7:=zZ _ _ _ _ _ _ hl k2;cases r2 with
     |pan e j=>cases h
     |ok k' j' m' T2=>exact absurd h7.1 id
     |oks K j' m' T2 =>
      have hP:=zEq hl;have hK:j'=l.length:=by
       match K,h with
       |[],h=>dsimp only at h;cases h;rfl
       |[x],h=>dsimp only at h;cases h;rfl
       |x::y::K,h=>dsimp only at h;cases h;rfl
      subst hK;have hG:zOl l j:=by
       rcases hP with h1|h1
       ·exact .inr (.inl h1)
       exact .inl h1.symm
      obtain⟨g,T1',c1,c2⟩:=sO 0 0 a j m [] T1 [] hh (Nat.le_refl _) (Nat.zero_le _) hG rfl;obtain⟨T2',d1,d2⟩:=sL j m [a] K l.length m' T1 T2 T1' hl (Nat.zero_le _) k2 (.inl rfl) c2;have e0:isW l' (l.length+0) [44]=false:=by
       unfold isW;rw[Nat.add_zero,List.getElem?_eq_none (by omega)]
      obtain⟨g2,ho⟩:=d2 1 _ (by rw[UX,e0];rfl);simp only[List.length_nil,Nat.add_zero,List.map_id'] at c1 ho;have hd:T2'.map Test.s=T2.map Test.s:=by
       unfold TSim at d1;rw[d1,List.nil_append]
       conv=>rhs;rw[← List.map_id (T2.map Test.s)]
       apply List.map_congr_left;intro x _;unfold STst.sh;simp
      have hu:T2'.length=T2.length:=by have:=congrArg List.length hd;simpa using this
      match K,h,ho with
      |[],h,ho =>
       dsimp only at h;cases h;refine⟨max g g2+1,T2'++[xK 9 [] [] false false [] (plW l' 0)],?_,by rw[List.map_append,List.map_append,hd];simp [wY]⟩;rw[UX,xV _ _ _ _ _ _ c1 _ (Nat.le_max_left g g2)];dsimp only;rw[xV _ _ _ _ _ _ ho _ (Nat.le_max_right g g2)];dsimp only;rw[hu]
      |[x],h,ho =>
       dsimp only at h;cases h;refine⟨max g g2+1,T2',?_,hd⟩;rw[UX,xV _ _ _ _ _ _ c1 _ (Nat.le_max_left g g2)];dsimp only;rw[xV _ _ _ _ _ _ ho _ (Nat.le_max_right g g2)]
      |x::y::K,h,ho =>
       dsimp only at h;cases h;refine⟨max g g2+1,T2'++[xK 9 [] [] false false (x::y::K) (plW l' 0)],?_,by rw[List.map_append,List.map_append,hd];simp [wY]⟩;rw[UX,xV _ _ _ _ _ _ c1 _ (Nat.le_max_left g g2)];dsimp only;rw[xV _ _ _ _ _ _ ho _ (Nat.le_max_right g g2)];dsimp only;rw[hu]
def zVC{l:List Tok}{f k n i':Nat}{T:List Test}(h:UX l f .tests 0 0 []=some (.ok k i' n T))(kr:T.length≤30):xB l 0=(T,i',0):=by
 obtain⟨r,hr⟩:=zBy (l:=l) (4 * (l.length - 0)+3) .tests 0 0 [] (by simp [UC.need]) (Nat.zero_le _);have e1:=xV _ _ _ _ _ _ h (max f (4 * (l.length - 0)+3)) (Nat.le_max_left ..);have e2:=xV _ _ _ _ _ _ hr (max f (4 * (l.length - 0)+3)) (Nat.le_max_right ..);rw[e1] at e2;cases e2;unfold xB UXF;rw[hr];dsimp only;rw[if_neg (by omega)]
def zJ3{l l':List Tok}{T:List Test}(hb:l'.map Tok.b=l.map Tok.b)(h:xB l 0=(T,l.length,0)):∃T',xB l' 0=(T',l.length,0)∧T'.map Test.s=T.map Test.s:=by
 obtain⟨f,k,n,h1,h2⟩:=zAR (l:=l) (Nat.zero_le _) (by rw[h]);rw[h] at h1 h2;obtain⟨g,T',h3,h4⟩:=zZk hb h1;exact⟨T',zVC h3 (by have:=congrArg List.length h4;simp at this;dsimp only at h2;omega),h4⟩
def zOh{l:List Tok}:∀(f:Nat) (c:UC) (i n:Nat) (T:List Test),n+1≤4→i≤l.length →
  (∀k i' n' T',UX l f c i (n+1) T=some (.ok k i' n' T')→UX l f c i n T=some (.ok k i' (n' - 1) T'))∧(∀K i' n' T',UX l f c i (n+1) T=some (.oks K i' n' T')→UX l f c i n T=some (.oks K i' (n' - 1) T'))
 |0,c,i,n,T,_,_=>⟨fun _ _ _ _ h=>by simp [UX] at h,fun _ _ _ _ h=>by simp [UX] at h⟩
 |f+1,.one,i,n,T,hn,hi=>by
  have ih:=zOh (l:=l) f;refine⟨fun k i' n' T' h=>?_,fun K i' n' T' h=>absurd (zZ _ _ _ _ _ _ h hi).1 id⟩;rw[UX] at h ⊢;split at h
  ·rename_i h1;rw[if_pos h1];cases h;rfl
  rename_i h1;rw[if_neg h1];split at h
  ·rename_i h2;rw[if_pos h2];split at h
   ·cases h
   rename_i h4;rw[if_neg (by omega)];have hu:i+2≤l.length:=by unfold notX at h2;rw[Bool.and_eq_true] at h2;exact zY h2.2
   cases hh:UX l f .tests (i+2) (n+1+1) T with
   |none=>rw[hh] at h;cases h
   |some r =>
    rw[hh] at h;cases r with
    |pan e j=>cases h
    |oks ks j m T1=>exact absurd (zZ _ _ _ _ _ _ hh hu).1 id
    |ok k1 j m T1 =>
     rw[(ih .tests (i+2) (n+1) T (by omega) hu).1 _ _ _ _ hh];dsimp only at h ⊢;split at h
     ·rename_i kd;rw[if_pos kd];cases h;rfl
     cases h
  rename_i h2;rw[if_neg h2];split at h
  ·rename_i h3;rw[if_pos h3];unfold rngX at h ⊢;split at h
   ·rename_i h5;rw[if_pos h5];split at h
    ·rename_i h6;rw[if_pos h6];cases h;rfl
    cases h
   cases h
  rename_i h3;rw[if_neg h3];have key:∀op p j,some (cmpX l op p j (n+1) T)=some (.ok k i' n' T')→some (cmpX l op p j n T)=some (.ok k i' (n' - 1) T'):=by
   intro op p j h;unfold cmpX at h ⊢;split at h
   ·rename_i h0;rw[if_pos h0];cases h;rfl
   cases h
  split at h<;>exact key _ _ _ h
 |f+1,.list ks,i,n,T,hn,hi=>by
  have ih:=zOh (l:=l) f;refine⟨fun k i' n' T' h=>absurd (zZ _ _ _ _ _ _ h hi).1 id,fun K i' n' T' h=>?_⟩;rw[UX] at h ⊢;split at h
  ·rename_i hc;rw[if_pos hc];have hu:i+1≤l.length:=by rw[Bool.and_eq_true] at hc;exact zY hc.1
   cases hh:UX l f .one (i+1) (n+1) T with
   |none=>rw[hh] at h;cases h
   |some r =>
    rw[hh] at h;have hk:=zZ _ _ _ _ _ _ hh hu;cases r with
    |pan e j=>cases h
    |oks ks j m T1=>exact absurd hk.1 id
    |ok k1 j m T1 =>
     obtain⟨_,_,k2,k3,_⟩:=hk;subst k3;rw[(ih .one (i+1) n T hn hu).1 _ _ _ _ hh];dsimp only at h ⊢;exact(ih (.list (ks++[k1])) j n T1 hn k2).2 _ _ _ _ h
  rename_i hc;rw[if_neg hc];cases h;rfl
 |f+1,.tests,i,n,T,hn,hi=>by
  have ih:=zOh (l:=l) f;refine⟨fun k i' n' T' h=>?_,fun K i' n' T' h=>absurd (zZ _ _ _ _ _ _ h hi).1 id⟩;rw[UX] at h ⊢;cases hh:UX l f .one i (n+1) T with
  |none=>rw[hh] at h;cases h
  |some r =>
   rw[hh] at h;have hk:=zZ _ _ _ _ _ _ hh hi;cases r with
   |pan e j=>cases h
   |oks ks j m T1=>exact absurd hk.1 id
   |ok k1 j m T1 =>
    obtain⟨_,_,k2,k3,_⟩:=hk;subst k3;rw[(ih .one i n T hn hi).1 _ _ _ _ hh];dsimp only at h ⊢;cases h2:UX l f (.list [k1]) j (n+1) T1 with
    |none=>rw[h2] at h;cases h
    |some r2 =>
     rw[h2] at h;cases r2 with
     |pan e j=>cases h
     |ok k j m T1=>exact absurd (zZ _ _ _ _ _ _ h2 k2).1 id
     |oks K j2 m2 T2 =>
      rw[show n+1 - 1=n from rfl,(ih (.list [k1]) j n T1 hn k2).2 _ _ _ _ h2]
      match K,h with
      |[],h=>dsimp only at h ⊢;cases h;rfl
      |[x],h=>dsimp only at h ⊢;cases h;rfl
      |x::y::K,h=>dsimp only at h ⊢;cases h;rfl
theorem UT.g_pre:∀(u:UT) (P:List STst),∃S,(u.g P).1=P++S
 |.any,P=>⟨_,rfl⟩
 |.cmp op e,P=>⟨_,rfl⟩
 |.rng lo hi a b,P=>⟨_,rfl⟩
 |.not t,P=>by
  obtain⟨S,h⟩:=UT.g_pre t P;exact⟨S++[⟨8,[],[],false,false,(t.g P).2⟩],by rw[UT.g,h];simp⟩
 |.list ks,P=>by
  obtain⟨S,h⟩:=UT.g_pre ks P;exact⟨S++[⟨9,[],[],false,false,(ks.g P).2⟩],by rw[UT.g,h];simp⟩
 |.one t,P=>UT.g_pre t P
 |.cons t ks,P=>by
  obtain⟨S,h⟩:=UT.g_pre t P;obtain⟨S',h'⟩:=UT.g_pre ks (t.g P).1;rw[h] at h';exact⟨S++S',by rw[UT.g,h,h'];simp⟩
theorem UT.g_le(u:UT)(P:List STst):P.length≤(u.g P).1.length:=by
 obtain⟨S,h⟩:=u.g_pre P;rw[h];simp
theorem UT.root:∀(u:UT) (P:List STst),u.isT→∃a:Nat,(u.g P).2=[(a:Int)]∧(u.g P).1.length=a+1
 |.any,P,_=>⟨P.length,rfl,by simp [UT.g]⟩
 |.cmp _ _,P,_=>⟨P.length,rfl,by simp [UT.g]⟩
 |.rng _ _ _ _,P,_=>⟨P.length,rfl,by simp [UT.g]⟩
 |.not t,P,_=>⟨(t.g P).1.length,rfl,by simp [UT.g]⟩
 |.list ks,P,_=>⟨(ks.g P).1.length,rfl,by simp [UT.g]⟩
 |.one _,_,h=>h.elim
 |.cons _ _,_,h=>h.elim
def zST {u:UT} {w L:List BT} {l:List Tok} {T:List Test} (h:UWs u w) (h1:u.isT) (h2:u.wf L) (h3:u.nd≤4) (hl:l.map Tok.b=nmB [110,111,116]::sgB [40]::(w++[sgB [41]])) (hp:xB l 0=(T,l.length,0)) :
  T.map Test.s=(u.g []).1++[⟨8,[],[],false,false,(u.g []).2⟩]:=by
 obtain⟨f,k,n,p1,p2⟩:=zAR (l:=l) (Nat.zero_le _) (by rw[hp]);rw[hp] at p1;have d0:(l.map Tok.b).drop 0=nmB [110,111,116]::(sgB [40]::(w++[sgB [41]])):=hl;obtain⟨t,t1,t2,t3⟩:=wO d0;obtain⟨t',t1',t2',t3'⟩:=wO t3;have hy:l.length=w.length+3:=by have:=congrArg List.length hl;simp at this;omega
 -- the inner tests,with no not open
 obtain⟨k0,T0,q1,q2,g,q3⟩:=(UT.reads h).2.1 l L 2 0 [] [sgB [41]] t3' h1 h2 (.inr ⟨_,_,rfl,rfl,rfl⟩) (by omega);have hf:=uE t3';have w0:isW l 0 [45]=false∧isW l 0 [110,111,116]=true:=by rw[qI d0,qI d0];exact⟨rfl,rfl⟩
 have w1:isW l (0+1) [40]=true:=by rw[qI t3];rfl
 have r1:anyX l 0=false:=by unfold anyX;rw[w0.1];rfl
 have r2:notX l 0=true:=by unfold notX;rw[w0.2,w1];rfl
 cases f with
 |zero=>simp [UX] at p1
 |succ f =>
  rw[UX] at p1;cases hh:UX l f .one 0 0 [] with
  |none=>rw[hh] at p1;cases p1
  |some r =>
   rw[hh] at p1;have hk:=zZ _ _ _ _ _ _ hh (Nat.zero_le _);cases r with
   |pan e j=>cases p1
   |oks ks j m T1=>exact absurd hk.1 id
   |ok a j m T1 =>
    obtain⟨_,k1,k2,k3,k4,k5,k6⟩:=hk
    -- the first test is the not
    have hQ:j=l.length∧T1.map Test.s=(u.g []).1++[⟨8,[],[],false,false,(u.g []).2⟩]:=by
     cases f with
     |zero=>simp [UX] at hh
     |succ f =>
      rw[UX,r1,r2] at hh;rw[if_neg (by decide),if_pos rfl,if_neg (by decide)] at hh;cases h4:UX l f .tests (0+2) (0+1) [] with
      |none=>rw[h4] at hh;cases hh
      |some r =>
       rw[h4] at hh;cases r with
       |pan e j=>cases hh
       |oks ks j m T1=>exact absurd (zZ _ _ _ _ _ _ h4 (by omega)).1 id
       |ok b j2 m2 T2 =>
        have h5:=(zOh (l:=l) f .tests (0+2) 0 [] (by omega) (by omega)).1 _ _ _ _ h4;have e1:=xV _ _ _ _ _ _ h5 (max f g) (Nat.le_max_left ..);have e2:=xV _ _ _ _ _ _ q3 (max f g) (Nat.le_max_right ..);rw[show 0+2=2 from rfl,e2] at e1;simp only[Option.some.injEq,RU.ok.injEq] at e1;obtain⟨x1,x2,_,x4⟩:=e1;subst x1 x2 x4;dsimp only at hh;split at hh
        ·cases hh;refine⟨by omega,?_⟩;rw[List.map_append,q1,List.map_cons,wY];have ke:(u.g []).2=[(k0:Int)]:=q2;rw[ke];rfl
        cases hh
    obtain⟨hj,hL⟩:=hQ;subst hj;dsimp only at p1;cases hH:UX l f (.list [a]) l.length m T1 with
    |none=>rw[hH] at p1;cases p1
    |some r2 =>
     rw[hH] at p1;have e44:isW l l.length [44]=false:=by unfold isW;rw[List.getElem?_eq_none (Nat.le_refl _)]
     cases f with
     |zero=>simp [UX] at hH
     |succ f =>
      rw[UX,e44] at hH;cases hH;dsimp only at p1;cases p1;exact hL
def zYr(S:Sem):Prop:=∀a,TB a→zET (S.not a)→a.e=0∧¬ zET a
def zP9(S:Sem)(A:List STst)(x:STst):kB S (A++[x])=zGi S x (wB S A A.length):=by
 unfold kB;rw[List.length_append,List.length_singleton,wB,List.getElem?_append_right (Nat.le_refl _),Nat.sub_self,zG2,zEY S A [x] A.length (Nat.le_refl _)]
 rfl
def zTK{l:List Ans}{a:Nat}(h:l.length=a+1):kidT l (a:Int)=zCn l:=by
 unfold kidT getA zCn;rw[if_neg (by omega),Int.toNat_natCast,List.getD_eq_getElem?_getD,List.getLast?_eq_getElem?,h,Nat.add_sub_cancel,List.getElem?_eq_getElem (by omega)]
 rfl
def zZU{S:Sem}(hS:SemOK S)(hN:zYr S){A:List STst}{a:Nat}(hA:A.length=a+1)(h:zET (kB S (A++[⟨8,[],[],false,false,[(a:Int)]⟩])))(hT:TB (kB S A)):(kB S A).e=0∧¬ zET (kB S A):=by
 rw[zP9] at h;have he:zGi S ⟨8,[],[],false,false,[(a:Int)]⟩ (wB S A A.length)=S.not (kB S A):=by
  unfold zGi zC6 jZ zK4 zAa;simp only[List.map_nil,getA];rw[if_neg (by decide)];have:=zTK (l:=wB S A A.length) (a:=a) (by rw[zBG,hA]);simp [this,kB]
 rw[he] at h;exact hN _ hT h
def zWx{T T':List Test}(h:TSim [] T T'):T'.map Test.s=T.map Test.s:=by
 unfold TSim at h;rw[h,List.nil_append]
 conv=>rhs;rw[← List.map_id (T.map Test.s)]
 apply List.map_congr_left;intro x _;unfold STst.sh;simp
def zW4 {S:Sem} (hS:SemOK S) {l1 l3:List Tok} {b:List BTok} (h:l3.map Tok.b=l1.map Tok.b++comma::b) {T1 T3:List Test} (h1:xB l1 0=(T1,l1.length,0)) (h3:xB l3 0=(T3,l3.length,0))
  (hp:zET (kB S (T1.map Test.s))):zET (kB S (T3.map Test.s)):=by
 obtain⟨f1,k1,n1,u1,_⟩:=zAR (l:=l1) (Nat.zero_le _) (by rw[h1]);obtain⟨f3,k3,n3,u3,_⟩:=zAR (l:=l3) (Nat.zero_le _) (by rw[h3]);rw[h1] at u1;rw[h3] at u3;obtain⟨A1,K1,r1⟩:=zXG u1;obtain⟨⟨f,k,i,n,T0,o1,o2,n',o3⟩,all,ne,lt⟩:=r1;have hy:l3.length=l1.length+1+b.length:=by have:=congrArg List.length h;simp at this;omega
 have hf:(l3.map Tok.b).drop l1.length=comma::b:=by rw[h,show l1.length=(l1.map Tok.b).length by simp,List.drop_left]
 have hD:SmW l1 l3 0 0:=zPG (a:=[]) (b:=comma::b) (by rw[List.nil_append];exact h);have hU:USim l1 l3 0 0:=⟨hD,by omega,fun t ht=>by
  obtain⟨v,v1,v2,_⟩:=wO hf;rw[Nat.add_zero,v1] at ht;cases ht;unfold Tok.b comma at v2;injection v2 with a1 a2
  injection a2 with a2 a3
  exact⟨a1,.inl a2⟩⟩
 obtain⟨sO,_,sL⟩:=zL9 hU (pre:=[]) f;have hP:zOl l1 i:=by
  rcases zEq o3 with h|h
  ·exact .inr (.inl h)
  exact .inl h.symm
 obtain⟨g,T0',c1,c2⟩:=sO 0 0 k i n [] T0 [] o1 (Nat.le_refl _) (Nat.zero_le _) hP rfl;obtain⟨A1',d1,d2⟩:=sL i n [k] K1 l1.length n' T0 A1 T0' o3 (Nat.zero_le _) o2 (.inl rfl) c2;have h8:=zWx d1;have kg:A1'.length=A1.length:=by have:=congrArg List.length h8;simpa using this
 simp only[List.length_nil,Nat.add_zero,List.map_id'] at c1 d2;have hV:l1.length≤l3.length:=by omega
 obtain⟨r,hr⟩:=zBy (l:=l3) (UC.need l3 l1.length (.list K1)) (.list K1) l1.length n' A1' (Nat.le_refl _) hV;obtain⟨g2,ho⟩:=d2 _ _ hr;have h9:=zZ _ _ _ _ _ _ hr hV;have kh:=zFf _ _ _ _ _ _ hr hV
 -- the whole
 have w1:=xV _ _ _ _ _ _ c1 (max f3 (max g g2)) (by omega);have w2:=xV _ _ _ _ _ _ ho (max f3 (max g g2)) (by omega);have w3:=xV _ _ _ _ _ _ u3 (max f3 (max g g2)+1) (by omega);rw[UX,w1] at w3;dsimp only at w3;rw[w2] at w3;cases r with
 |pan e j=>cases w3
 |ok k' j m T'=>exact absurd h9.1 id
 |oks K3 j m A3 =>
  obtain⟨_,_,_,_,_,_,K2,hK,kt⟩:=h9;have hI:K3=K1++K2:=hK;obtain⟨_,ht⟩:=kh;have hj:j=l3.length:=by
   match K3,w3 with
   |[],w3=>dsimp only at w3;cases w3;rfl
   |[x],w3=>dsimp only at w3;cases w3;rfl
   |x::y::K,w3=>dsimp only at w3;cases w3;rfl
  subst hj
  -- it went on
  have ki:0<K2.length∧∃R,A3.map Test.s=A1.map Test.s++R:=by
   rcases ht with ⟨_,_,hw⟩|⟨us,z1,z2,z3,z4,z5,z6,z7⟩
   ·exfalso;have:=zXR (l:=l3) (i:=l1.length) (j:=l3.length) (by omega) (Nat.le_refl _);cases hn:UC.need l3 l1.length (.list K1) with
    |zero=>rw[hn] at hr;simp [UX] at hr
    |succ q =>
     rw[hn,UX] at hr;split at hr
     ·rename_i hc;rw[Bool.and_eq_true] at hc;cases h5:UX l3 q .one (l1.length+1) n' A1' with
      |none=>rw[h5] at hr;cases hr
      |some r5 =>
       rw[h5] at hr;have ka:=zZ _ _ _ _ _ _ h5 (zY hc.1);cases r5 with
       |pan e j=>cases hr
       |oks ks j m T1=>exact absurd ka.1 id
       |ok a5 j5 m5 T5 =>
        dsimp only at hr;have kj:=zZ _ _ _ _ _ _ hr ka.2.2.1;obtain⟨_,_,_,_,_,_,M,hM,_⟩:=kj;rename_i ku _ _;have e1:K3=(K1++[a5])++M:=hM;have e2:K3=K1:=by assumption
        rw[e2] at e1;have:=congrArg List.length e1;simp at this
     simp only[Option.some.injEq,RU.oks.injEq] at hr;omega
   refine⟨?_,?_⟩
   ·have:K3.length=K1.length+us.num:=z5;rw[hI,List.length_append] at this;omega
   obtain⟨R,hR⟩:=us.g_pre (A1'.map Test.s);exact⟨R,by rw[z3,hR,h8]⟩
  obtain⟨h7,R,hR⟩:=ki;have kk:T3.map Test.s=zRL (A3.map Test.s) K3:=by
   have h2:2≤K3.length:=by
    have:0<K1.length:=List.length_pos_iff.2 ne;rw[hI,List.length_append];omega
   match K3,h2,w3 with
   |[],h2,_=>simp at h2
   |[a],h2,_=>simp at h2
   |x::y::K,_,w3 =>
    dsimp only at w3;cases w3;rw[List.map_append,List.map_cons,wY];rfl
  have ne3:K3≠[]:=by rw[hI];simp [ne]
  have hv:A1.map Test.s≠[]:=by
   cases hq:K1 with
   |nil=>exact absurd hq ne
   |cons a K =>
    have:=lt a (by rw[hq];exact List.mem_cons_self ..);intro h0;rw[List.map_eq_nil_iff] at h0;subst h0;simp at this
  obtain⟨w,hw⟩:=(Reads.wf ⟨⟨f,k,i,n,T0,o1,o2,n',o3⟩,all,ne,lt⟩:_∧_);obtain⟨a1,s1,m1,t1⟩:=zN4 (S:=S) (A:=A1.map Test.s) (K:=K1) hv (fun k hk=>by rw[List.length_map];exact hw k hk) ne;obtain⟨a3,s3,m3,t3⟩:=zN4 (S:=S) (A:=A3.map Test.s) (K:=K3) (by rw[hR];simp [hv]) (fun k hk=>by
   exfalso;have:=congrArg List.length hk;rw[hI,List.length_append] at this;have:0<K1.length:=List.length_pos_iff.2 ne;simp at *;omega) ne3
  rw[all,t1] at hp;rw[kk,t3]
  -- the first answers are the same
  have hN:wB S (A3.map Test.s) (A3.map Test.s).length=wB S (A1.map Test.s) (A1.map Test.s).length++(wB S (A3.map Test.s) (A3.map Test.s).length).drop (A1.map Test.s).length:=by
   have hW:∀i,(A1.map Test.s).length≤i→∃Z,wB S (A3.map Test.s) i=wB S (A1.map Test.s) (A1.map Test.s).length++Z:=by
    intro i hi
    induction i with
    |zero=>exact⟨[],by rw[show (A1.map Test.s).length=0 by omega];rfl⟩
    |succ i ih =>
     rcases Nat.lt_or_ge i (A1.map Test.s).length with h'|h'
     ·refine⟨[],?_⟩;rw[List.append_nil,show i+1=(A1.map Test.s).length by omega,hR];exact zEY S _ _ _ (Nat.le_refl _)
     obtain⟨Z,hZ⟩:=ih h';rw[wB,hZ];exact⟨Z++_,by rw[List.append_assoc]⟩
   obtain⟨Z,hZ⟩:=hW (A3.map Test.s).length (by rw[hR];simp);have hl:=zBG S (A1.map Test.s) (A1.map Test.s).length;have hd:=List.drop_left (l₁:=wB S (A1.map Test.s) (A1.map Test.s).length) (l₂:=Z);rw[hl] at hd;rw[hZ,hd]
  have hJ:∃s2,a3::s3=(a1::s1)++s2:=by
   refine⟨K2.map (fun k:Nat=>kidT (wB S (A3.map Test.s) (A3.map Test.s).length) (k:Int)),?_⟩;rw[← m3,← m1,hI,List.map_append]
   congr 1
   apply List.map_congr_left;intro k hk;rw[hN];exact zS3 _ _ _ (by rw[zBG,List.length_map];exact lt k hk)
  obtain⟨s2,hs⟩:=hJ;rw[List.cons_append] at hs;injection hs with e1 e2
  have kb:∀x ∈ a3::s3,TB x:=by
   rw[← m3];intro x hx;obtain⟨k,_,rfl⟩:=List.mem_map.1 hx;exact zQF (zG1 hS _ _) _
  have ha:TB a3:=kb _ (List.mem_cons_self ..);have kc:∀x ∈ s3,TB x:=fun x hx=>kb x (List.mem_cons_of_mem _ hx)
  rw[zGX hS.any s3 ha kc];have km:∀x ∈ s1,TB x:=fun x hx=>kc x (by rw[e2];exact List.mem_append_left _ hx)
  rw[← e1] at hp;rw[zGX hS.any s1 ha km] at hp;rw[e2,List.foldl_append,zNr (.inr hp.2)];exact hp
variable {vp:List Nat→Val×Int}
theorem zTw{c:Nat}{r:List Nat}{b:BTok}{n:Nat}(h:yJ vp (c::r)=(b,n,0)):b.2.1.length≤n∧1≤n:=by
 unfold yJ at h;have e0:nth0 (c::r) 0=c:=rfl;have e2:(c::r).drop 1=r:=rfl;simp only[e0,e2] at h;split at h
 ·rename_i hl;injection h with h1 h2
  injection h2 with h2 h3
  subst h1 h2;have hn:yF c=true:=by unfold yF;rw[hl];rfl
  refine⟨by simp;omega,?_⟩;rw[cntW,if_pos hn];omega
 split at h
 ·rename_i hd;injection h with h1 h2
  injection h2 with h2 h3
  subst h1 h2;refine⟨by simp;omega,?_⟩;have:0<cntW yA (c::r):=by rw[cntW,if_pos hd];omega
  unfold numN;dsimp only;split<;>omega
 split at h
 ·split at h
  ·injection h with h1 h2
   injection h2 with h2 h3
   subst h1 h2;exact⟨by simp;omega,by omega⟩
  injection h with h1 h2
  injection h2 with h2 h3
  cases h3
 split at h
 ·injection h with h1 h2
  injection h2 with h2 h3
  subst h1 h2;exact⟨by dsimp only;omega,by omega⟩
 split at h
 ·injection h with h1 h2
  injection h2 with h2 h3
  subst h1 h2;exact⟨by simp,by omega⟩
 split at h
 ·injection h with h1 h2
  injection h2 with h2 h3
  subst h1 h2;exact⟨by dsimp only;omega,by omega⟩
 split at h
 ·injection h with h1 h2
  injection h2 with h2 h3
  subst h1 h2;exact⟨by simp;omega,by omega⟩
 split at h
 ·injection h with h1 h2
  injection h2 with h2 h3
  subst h1 h2;exact⟨by simp,by omega⟩
 injection h with h1 h2
 injection h2 with h2 h3
 cases h3
theorem zJr:∀(s:List Nat) {L:List BTok},lexB vp s=some L→(L.map fun b=>b.2.1.length+9).sum≤10 * s.length
 |[],L,h=>by rw[lexB] at h;cases h;simp
 |c::s,L,h=>by
  rw[lexB] at h;split at h
  ·have:=zJr s h;simp only[List.length_cons];omega
  split at h
  ·have:=zJr (s.drop _) h;rw[List.length_drop] at this;simp only[List.length_cons];omega
  split at h
  ·rename_i hw;cases hl:lexB vp (s.drop ((yJ vp (c::s)).2.1 - 1)) with
   |none=>rw[hl] at h;cases h
   |some l =>
    rw[hl] at h;cases h;have h1:=zJr (s.drop _) hl;have h2:=zKE vp c s hw;obtain⟨h3,h4⟩:=zTw (vp:=vp) (c:=c) (r:=s) (b:=(yJ vp (c::s)).1) (n:=(yJ vp (c::s)).2.1) (by rw[← hw]);rw[List.length_drop] at h1;simp only[List.map_cons,List.sum_cons,List.length_cons];omega
  cases h
 termination_by s=>s.length
 decreasing_by all_goals (simp only[List.length_drop,List.length_cons];omega)
theorem yFt{s:List Nat}{l:List Tok}(h:lexB vp s=some (l.map Tok.b)):wS l 0≤10 * s.length:=by
 have:=zJr s h;rw[List.map_map] at this;unfold wS;rw[List.drop_zero];exact this
end Go.Ab
