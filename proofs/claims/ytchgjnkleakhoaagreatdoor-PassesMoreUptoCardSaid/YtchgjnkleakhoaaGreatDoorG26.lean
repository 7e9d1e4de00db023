/- Lemmas. -/
import Derived.Test.YtchgjnkleakhoaaGreatDoorG04
set_option maxRecDepth 1000000
set_option maxHeartbeats 40000000
set_option linter.all false
namespace Go.Ab
abbrev BT:=Int×List Nat×Val
inductive ET where
 |lit (b:BT)
 |word (w:List Nat) (v:Val)
 |var (b:BT)
 |self
 |un (n:Nat) (e:ET)
 |bin (n:Nat) (o:Int) (x y:ET)
 |call (w:List Nat) (op:Int) (ks:ET)
 |one (e:ET)
 |cons (e ks:ET)
def ET.g:ET→List SNode→List SNode×List Int
 |.lit b,T=>(T++[⟨1,b.2.2,[],[]⟩],[(T.length:Int)])
 |.word _ v,T=>(T++[⟨1,v,[],[]⟩],[(T.length:Int)])
 |.var b,T=>(T++[⟨2,VZ,b.2.1,[]⟩],[(T.length:Int)])
 |.self,T=>(T++[⟨3,VZ,[],[]⟩],[(T.length:Int)])
 |.un n e,T=>((e.g T).1++[⟨oX n,VZ,[],(e.g T).2⟩],[((e.g T).1.length:Int)])
 |.bin _ o x y,T=>((y.g (x.g T).1).1++[⟨o,VZ,[],(x.g T).2++(y.g (x.g T).1).2⟩],[((y.g (x.g T).1).1.length:Int)])
 |.call _ op ks,T=>((ks.g T).1++[⟨op,VZ,[],(ks.g T).2⟩],[((ks.g T).1.length:Int)])
 |.one e,T=>e.g T
 |.cons e ks,T=>((ks.g (e.g T).1).1,(e.g T).2++(ks.g (e.g T).1).2)
def ET.lvl:ET→Nat
 |.un n _=>n
 |.bin n _ _ _=>n
 |_=>8
def ET.dp:ET→Nat
 |.un n e=>(if e.lvl<n then e.dp+1 else e.dp)+1
 |.bin n _ x y=>max (if x.lvl<(if n=3 then 4 else n) then x.dp+1 else x.dp) (if y.lvl<n+1 then y.dp+1 else y.dp)
 |.call _ _ ks=>ks.dp+1
 |.one e=>e.dp
 |.cons e ks=>max e.dp ks.dp
 |_=>0
def ET.dk(m:Nat)(e:ET):Nat:=if e.lvl<m then e.dp+1 else e.dp
def ET.isE:ET→Prop
 |.one _=>False
 |.cons _ _=>False
 |_=>True
def ET.num:ET→Nat
 |.one _=>1
 |.cons _ ks=>ks.num+1
 |_=>0
def ET.wf(l:List BT):ET→Prop
 |.lit b=>b ∈ l∧(b.1=4∨b.1=5∨b.1=6)
 |.word w v=>wV w jZ=none∧wV w zB8=some v
 |.var b=>b ∈ l∧b.1=2
 |.self=>True
 |.un n e=>(n=2∨n=6)∧e.isE∧e.wf l
 |.bin n o x y=>n<6∧(∃w,(w,o) ∈ opsX n)∧(x.isE∧x.wf l)∧y.isE∧y.wf l
 |.call w op ks=>(∃least most,wV w jZ=some (op,least,most)∧least≤ks.num∧ks.num≤most)∧0<ks.num∧ks.wf l
 |.one e=>e.isE∧e.wf l
 |.cons e ks=>(e.isE∧e.wf l)∧0<ks.num∧ks.wf l
theorem ET.dk_le{m k:Nat}(h:m≤k)(e:ET):e.dk m≤e.dk k:=by
 unfold ET.dk;split<;>split<;>omega
theorem ET.dk_high{e:ET}{m:Nat}(h:m≤e.lvl):e.dk m=e.dp:=by unfold ET.dk;rw[if_neg (by omega)]
def zNz{l:List Tok}{i:Nat}:∀ {os:List (List Nat×Int)},yG l i os≠0→∃w,(w,yG l i os) ∈ os
 |[],h=>by simp [yG] at h
 |o::os,h=>by
  unfold yG at h ⊢;split
  ·exact⟨o.1,List.mem_cons_self ..⟩
  rename_i hw;rw[if_neg hw] at h;obtain⟨w,hw⟩:=zNz h;exact⟨w,List.mem_cons_of_mem _ hw⟩
def ET.tl:ET→Nat
 |.lit b=>b.2.1.length+2
 |.word w _=>w.length
 |.var b=>b.2.1.length+1
 |.self=>1
 |.un _ e=>e.tl+6
 |.bin _ _ x y=>x.tl+y.tl+9
 |.call w _ ks=>w.length+2+ks.tl
 |.one e=>e.tl
 |.cons e ks=>e.tl+2+ks.tl
def wS(l:List Tok)(i:Nat):Nat:=((l.drop i).map fun t=>t.s.length+9).sum
def zLU{l:List Tok}{i:Nat}{t:Tok}(h:l[i]?=some t):wS l i=t.s.length+9+wS l (i+1):=by
 obtain⟨hi,rfl⟩:=List.getElem?_eq_some_iff.1 h;unfold wS;rw[List.drop_eq_getElem_cons hi,List.map_cons,List.sum_cons]
def zAi{l:List Tok}{i:Nat}{w:List Nat}(h:isW l i w=true):9+wS l (i+1)≤wS l i:=by
 have:=yA h;rw[zLU (List.getElem?_eq_getElem this)];omega
def zWC{l:List Tok}{i:Nat}{os:List (List Nat×Int)}(h:yG l i os≠0):9+wS l (i+1)≤wS l i:=by
 have:=zBB h;rw[zLU (List.getElem?_eq_getElem this)];omega
def GXt(l:List Tok)(c:Cmd)(i d:Nat)(T:List SNode)(a:Nat)(i' d':Nat)(T':List SNode):Prop:=match c with
 |.lev n=>n≤7→d'=d∧∃e:ET,e.isE∧e.wf (l.map Tok.b)∧T'=(e.g T).1∧(e.g T).2=[(a:Int)]∧e.dk n+d≤12∧e.tl+wS l i'≤wS l i
 |.row n a0=>∀(e0:ET) (T0:List SNode),n<6→n≠2→e0.isE→e0.wf (l.map Tok.b)→T=(e0.g T0).1→(e0.g T0).2=[(a0:Int)]→e0.dk (if n=3 then 4 else n)+d≤12 →
   d'=d∧∃e:ET,e.isE∧e.wf (l.map Tok.b)∧T'=(e.g T0).1∧(e.g T0).2=[(a:Int)]∧e.dk n+d≤12∧e.tl+wS l i'≤e0.tl+wS l i
 |.call op least most kids p=>kids.length<most→d'=d - 1∧∃ks:ET,0<ks.num∧ks.wf (l.map Tok.b)∧T'=(ks.g T).1++[⟨op,VZ,[],kids++(ks.g T).2⟩]∧a=(ks.g T).1.length∧ks.dp+d≤12∧least≤kids.length+ks.num∧kids.length+ks.num≤most∧ks.tl+wS l i'≤wS l i
def zZX{l:List Tok}{i:Nat}{t:Tok}(h:l[i]?=some t):t.b ∈ l.map Tok.b:=List.mem_map.2 ⟨t,List.mem_of_getElem? h,rfl⟩
set_option maxHeartbeats 4000000 in
def zI2{l:List Tok}:∀(f:Nat) (c:Cmd) (i d:Nat) (T:List Node) (a i' d':Nat) (T':List Node),PX l f c i d T=some (.ok a i' d' T')→d≤12→GXt l c i d (T.map Node.s) a i' d' (T'.map Node.s)
 |0,c,i,d,T,a,i',d',T',h,_=>by simp [PX] at h
 |f+1,.lev n,i,d,T,a,i',d',T',h,hd=>by
  have ih:=zI2 (l:=l) f;intro hn7;rw[PX] at h;split at h
  ·rename_i hn;split at h
   ·rename_i hw;split at h
    ·cases h
    rename_i hd12;cases hh:PX l f (.lev n) (i+1) (d+1) T with
    |none=>rw[hh] at h;cases h
    |some r =>
     rw[hh] at h;cases r with
     |pan e j d2 T2=>cases h
     |ok b j d2 T2 =>
      obtain⟨rfl,e,h1,h2,h3,h4,h5,hz⟩:=ih _ _ _ _ _ _ _ _ hh (by omega) hn7;have hwt:=zAi hw;cases h;refine⟨by omega,.un n e,trivial,⟨hn,h1,h2⟩,?_,?_,?_,by simp only[ET.tl];omega⟩
      ·rw[List.map_append,ET.g,← h3,h4];simp [wJ]
      ·rw[ET.g,← h3];simp
      unfold ET.dk at h5 ⊢;simp only[ET.lvl,ET.dp,Nat.lt_irrefl,if_false] at h5 ⊢;omega
   obtain⟨rfl,e,h1,h2,h3,h4,h5,hz⟩:=ih _ _ _ _ _ _ _ _ h hd (by omega);exact⟨rfl,e,h1,h2,h3,h4,by have:=ET.dk_le (show n≤n+1 by omega) e;omega,hz⟩
  rename_i hn;split at h
  ·rename_i h7;cases hh:PX l f (.lev (n+1)) i d T with
   |none=>rw[hh] at h;cases h
   |some r =>
    rw[hh] at h;cases r with
    |pan e j d2 T2=>cases h
    |ok b j d2 T2 =>
     obtain⟨rfl,e,h1,h2,h3,h4,h5,hz⟩:=ih _ _ _ _ _ _ _ _ hh hd (by omega);have h6:=ih _ _ _ _ _ _ _ _ h hd e (T.map Node.s) (by omega) (by omega) h1 h2 h3 h4 (by
      have:=ET.dk_le (show (if n=3 then 4 else n)≤n+1 by split<;>omega) e;omega)
     obtain⟨g1,e',g2,g3,g4,g5,g6,g7⟩:=h6;exact⟨g1,e',g2,g3,g4,g5,g6,by omega⟩
  have hn:n=7:=by omega
  subst hn;have leaf:∀(e:ET) (x:SNode) (j:Nat),e.lvl=8→e.dp=0→e.isE→e.wf (l.map Tok.b)→e.g (T.map Node.s)=(T.map Node.s++[x],[((T.map Node.s).length:Int)])→T'.map Node.s=T.map Node.s++[x]→a=T.length→d'=d→e.tl+wS l i'≤wS l i →
    d'=d∧∃e:ET,e.isE∧e.wf (l.map Tok.b)∧T'.map Node.s=(e.g (T.map Node.s)).1∧(e.g (T.map Node.s)).2=[(a:Int)]∧e.dk 7+d≤12∧e.tl+wS l i'≤wS l i:=by
   intro e x j e1 e2 e3 e4 e5 e6 e7 e8 e9;refine⟨e8,e,e3,e4,by rw[e5,e6],by rw[e5,e7,List.length_map],?_,e9⟩;unfold ET.dk;rw[e1,e2]
   simpa using hd
  split at h
  ·cases h
  rename_i t ht;have hm:=zZX ht;have hwt:=zLU ht;split at h
  ·rename_i hk;cases h;exact leaf (.lit t.b) _ 0 rfl rfl trivial ⟨hm,hk⟩ rfl (by rw[List.map_append];simp [wJ];rfl) rfl rfl (by rw[hwt];simp only[ET.tl,Tok.b];omega)
  split at h
  ·rename_i hk;cases h;exact leaf (.var t.b) _ 0 rfl rfl trivial ⟨hm,hk⟩ rfl (by rw[List.map_append];simp [wJ];rfl) rfl rfl (by rw[hwt];simp only[ET.tl,Tok.b];omega)
  split at h
  ·cases h;exact leaf .self _ 0 rfl rfl trivial trivial rfl (by rw[List.map_append];simp [wJ]) rfl rfl (by rw[hwt];simp only[ET.tl,Tok.b];omega)
  split at h
  ·split at h
   ·rename_i op least most hc;split at h
    ·rename_i hw;split at h
     ·cases h
     rename_i hd12;have hms:0<most:=by
      have:∀w op least most,wV w jZ=some (op,least,most)→0<most:=by
       intro w op least most h;simp only[jZ,wV] at h
       repeat' split at h
       all_goals first|cases h;decide|cases h
      exact this _ _ _ _ hc
     have hwt2:9+wS l (i+2)≤wS l (i+1):=zAi hw;obtain⟨hdd,ks,k1,k2,k3,k4,k5,k6,k7,hz⟩:=ih _ _ _ _ _ _ _ _ h (by omega) (by simpa using hms);refine⟨by omega,.call t.s op ks,trivial,⟨⟨least,most,hc,by simpa using k6,by simpa using k7⟩,k1,k2⟩,by rw[k3,ET.g];simp,by rw[ET.g,k4],?_,by simp only[ET.tl];omega⟩;rw[ET.dk_high (show 7≤(ET.call t.s op ks).lvl from (by decide:7≤8))]
     show ks.dp+1+d≤12
     omega
    cases h
   rename_i hc;split at h
   ·rename_i v hv;cases h;exact leaf (.word t.s v) _ 0 rfl rfl trivial ⟨hc,hv⟩ rfl (by rw[List.map_append];simp [wJ]) rfl rfl (by rw[hwt];simp only[ET.tl,Tok.b];omega)
   cases h
  split at h
  ·rename_i hw;have hwt1:=zAi hw;split at h
   ·cases h
   rename_i hd12;cases hh:PX l f (.lev 0) (i+1) (d+1) T with
   |none=>rw[hh] at h;cases h
   |some r =>
    rw[hh] at h;cases r with
    |pan e j d2 T2=>cases h
    |ok b j d2 T2 =>
     obtain⟨rfl,e,h1,h2,h3,h4,h5,hz⟩:=ih _ _ _ _ _ _ _ _ hh (by omega) (by omega);dsimp only at h;split at h
     ·rename_i hw2;have hwt2:=zAi hw2;cases h;refine⟨by omega,e,h1,h2,h3,h4,?_,by omega⟩;unfold ET.dk at h5 ⊢;rw[if_neg (by omega)] at h5;split<;>omega
     cases h
  cases h
 |f+1,.row n a0,i,d,T,a,i',d',T',h,hd=>by
  have ih:=zI2 (l:=l) f;intro e0 T0 hn6 hn2 h1 h2 h3 h4 h5;rw[PX] at h;split at h
  ·cases h;exact⟨rfl,e0,h1,h2,h3,h4,by have:=ET.dk_le (show n≤(if n=3 then 4 else n) by split<;>omega) e0;omega,Nat.le_refl _⟩
  rename_i hi;cases hh:PX l f (.lev (n+1)) (i+1) d T with
  |none=>rw[hh] at h;cases h
  |some r =>
   rw[hh] at h;cases r with
   |pan e j d2 T2=>cases h
   |ok b j d2 T2 =>
    obtain⟨rfl,e,k1,k2,k3,k4,k5,hz⟩:=ih _ _ _ _ _ _ _ _ hh hd (by omega);have hwt:=zWC hi;have q5:(ET.bin n (yG l i (opsX n)) e0 e).tl+wS l j≤e0.tl+wS l i:=by simp only[ET.tl];omega
    have q1:(ET.bin n (yG l i (opsX n)) e0 e).wf (l.map Tok.b):=⟨hn6,zNz hi,⟨h1,h2⟩,k1,k2⟩
    have q2:(T2++[xK (yG l i (opsX n)) VZ [] [(a0:Int),(b:Int)] (plW l i)]).map Node.s=((ET.bin n (yG l i (opsX n)) e0 e).g T0).1:=by
     rw[List.map_append,ET.g,← h3,h4,← k3,k4];simp [wJ]
    have q3:((ET.bin n (yG l i (opsX n)) e0 e).g T0).2=[((T2.length:Nat):Int)]:=by
     rw[ET.g,← h3,← k3];simp
    have q4:(ET.bin n (yG l i (opsX n)) e0 e).dp+d2≤12:=by
     unfold ET.dk at h5 k5;simp only[ET.dp];omega
    dsimp only at h;split at h
    ·rename_i hm;have hn3:n≠3:=by rintro rfl;exact absurd hm (by decide)
     obtain⟨g1,e',g2,g3,g4,g5,g6,g7⟩:=ih _ _ _ _ _ _ _ _ h hd (.bin n (yG l i (opsX n)) e0 e) T0 hn6 hn2 trivial q1 q2 q3 (by rw[if_neg hn3];unfold ET.dk;simp only[ET.lvl,Nat.lt_irrefl,if_false];exact q4);exact⟨g1,e',g2,g3,g4,g5,g6,by omega⟩
    cases h;exact⟨rfl,.bin n (yG l i (opsX n)) e0 e,trivial,q1,q2,q3,by unfold ET.dk;simp only[ET.lvl,Nat.lt_irrefl,if_false];exact q4,q5⟩
 |f+1,.call op least most kids p,i,d,T,a,i',d',T',h,hd=>by
  have ih:=zI2 (l:=l) f;intro hk;rw[PX] at h;cases hh:PX l f (.lev 0) i d T with
  |none=>rw[hh] at h;cases h
  |some r =>
   rw[hh] at h;cases r with
   |pan e j d2 T2=>cases h
   |ok b j d2 T2 =>
    obtain⟨rfl,e,k1,k2,k3,k4,k5,hz⟩:=ih _ _ _ _ _ _ _ _ hh hd (by omega);dsimp only at h;have hl:(kids++[(b:Int)]).length=kids.length+1:=by simp
    rw[hl] at h;have k6:e.dp+d2≤12:=by unfold ET.dk at k5;rw[if_neg (by omega)] at k5;exact k5
    split at h
    ·cases h
    rename_i hc;split at h
    ·rename_i h44;have hm:kids.length+1≠most:=fun hm=>hc (by rw[h44,hm];simp)
     have hwt:=zAi h44;obtain⟨hdd,ks,m1,m2,m3,m4,m5,m6,m7,hz2⟩:=ih _ _ _ _ _ _ _ _ h hd (by rw[hl];omega);rw[hl] at m6 m7;refine⟨hdd,.cons e ks,Nat.succ_pos _,⟨⟨k1,k2⟩,m1,m2⟩,?_,?_,?_,?_,?_,by simp only[ET.tl];omega⟩
     ·rw[m3,k3,ET.g,k4];simp
     ·rw[m4,k3,ET.g]
     ·simp only[ET.dp];omega
     ·simp only[ET.num];omega
     simp only[ET.num];omega
    rename_i h44;split at h
    ·rename_i h41;cases h;have hm:¬ kids.length+1<least:=fun hm=>hc (by rw[h41];simp [hm])
     have hwt:=zAi h41;refine⟨rfl,.one e,Nat.one_pos,⟨k1,k2⟩,?_,?_,?_,?_,?_,by simp only[ET.tl];omega⟩
     ·rw[List.map_append,k3,ET.g,k4];simp [wJ]
     ·rw[ET.g,← k3,List.length_map]
     ·simp only[ET.dp];omega
     ·simp only[ET.num];omega
     simp only[ET.num];omega
    cases h
def nmB(w:List Nat):BT:=(1,w,VZ)
def sgB(w:List Nat):BT:=(7,w,VZ)
def opWd:Int→List Nat
 |4=>[111,114]|5=>[97,110,100]|7=>[61]|8=>[60,62]|9=>[60]|10=>[60,61]|11=>[62]|12=>[62,61]
 |13=>[43]|14=>[45]|15=>[42]|16=>[47]|_=>[]
def opBT(n:Nat)(o:Int):BT:=(if n<2 then 1 else 7,opWd o,VZ)
def unBT(n:Nat):BT:=(if n=2 then 1 else 7,wX n,VZ)
def parB(m n:Nat)(l:List BT):List BT:=if m<n then sgB [40]::(l++[sgB [41]]) else l
def xLv(n:Nat):Nat:=if n=3 then 4 else n
def ET.ws:ET→List BT
 |.lit b=>[b]
 |.word w _=>[nmB w]
 |.var b=>[b]
 |.self=>[(3,[],VZ)]
 |.un n e=>unBT n::parB e.lvl n e.ws
 |.bin n o x y=>parB x.lvl (xLv n) x.ws++opBT n o::parB y.lvl (n+1) y.ws
 |.call w _ ks=>nmB w::sgB [40]::(ks.ws++[sgB [41]])
 |.one e=>e.ws
 |.cons e ks=>e.ws++sgB [44]::ks.ws
def ET.wk(m:Nat)(e:ET):List BT:=parB e.lvl m e.ws
def isB:List BT→List Nat→Bool
 |[],_=>false
 |b::_,w=>(b.1==1||b.1==7)&&b.2.1==w
def kF(l:List Tok)(i:Nat)(w:List Nat):isW l i w=isB ((l.map Tok.b).drop i) w:=by
 unfold isW;rcases Nat.lt_or_ge i l.length with h|h
 ·rw[List.getElem?_eq_getElem h,List.drop_eq_getElem_cons (by simpa using h)];simp [isB,Tok.b]
 rw[List.getElem?_eq_none h,List.drop_eq_nil_of_le (by simpa using h)]
 rfl
def vM{l:List Tok}{i:Nat}{b:BT}{r:List BT}(h:(l.map Tok.b).drop i=b::r):∃t,l[i]?=some t∧t.b=b∧(l.map Tok.b).drop (i+1)=r:=by
 have hi:i<l.length:=by
  rcases Nat.lt_or_ge i l.length with h'|h'
  ·exact h'
  rw[List.drop_eq_nil_of_le (by simpa using h')] at h;cases h
 rw[List.drop_eq_getElem_cons (by simpa using hi)] at h;injection h with h1 h2
 exact⟨l[i],List.getElem?_eq_getElem hi,by simpa using h1,h2⟩
def qH{l:List Tok}{i:Nat}{a r:List BT}(h:(l.map Tok.b).drop i=a++r):(l.map Tok.b).drop (i+a.length)=r:=by
 rw[← List.drop_drop,h,List.drop_left]
def zKN(n:Nat)(r:List BT):Prop:=∀k,n<k→∀o ∈ opsX k,isB r o.1=false
theorem zKN.mono{n m:Nat}{r:List BT}(h:zKN n r)(hm:n≤m):zKN m r:=fun k hk=>h k (by omega)
def zK5{l:List Tok}{i:Nat}:∀ {os:List (List Nat×Int)},(∀o ∈ os,isB ((l.map Tok.b).drop i) o.1=false)→yG l i os=0
 |[],_=>rfl
 |o::os,h=>by
  unfold yG;rw[kF,h o (List.mem_cons_self ..)];exact zK5 fun o ho=>h o (List.mem_cons_of_mem _ ho)
def EX(l:List Tok)(c:Cmd)(i d:Nat)(T:List Node)(r:RX):Prop:=∃f,PX l f c i d T=some r
def yGX{l:List Tok}{n i d:Nat}{T:List Node}{a i' d':Nat}{T':List Node}(hn:n=2∨n=6)(hw:isW l i (wX n)=false)(h:EX l (.lev (n+1)) i d T (.ok a i' d' T')):EX l (.lev n) i d T (.ok a i' d' T'):=by
 obtain⟨f,h⟩:=h;refine⟨f+1,?_⟩;rw[PX,if_pos hn,hw];exact h
def zTF{l:List Tok}{n i d:Nat}{T:List Node}{a i' d':Nat}{T':List Node}{r:RX}(hn:n<6)(hn2:n≠2)(h:EX l (.lev (n+1)) i d T (.ok a i' d' T'))(hr:EX l (.row n a) i' d' T' r):EX l (.lev n) i d T r:=by
 obtain⟨f,h⟩:=h;obtain⟨g,hr⟩:=hr;refine⟨max f g+1,?_⟩;rw[PX,if_neg (by omega),if_pos (by omega),zCm _ _ _ _ _ _ h _ (Nat.le_max_left f g)];exact zCm _ _ _ _ _ _ hr _ (Nat.le_max_right f g)
def zXT{l:List Tok}{n a i d:Nat}{T:List Node}(h:yG l i (opsX n)=0):EX l (.row n a) i d T (.ok a i d T):=⟨1,by rw[PX,if_pos h]⟩
def yHD {l:List Tok} {n a i d:Nat} {T:List Node} {o:Int} {b i' d':Nat} {T':List Node} {r:RX} (ho:yG l i (opsX n)=o) (h0:o≠0) (hn:n≠3) (h:EX l (.lev (n+1)) (i+1) d T (.ok b i' d' T'))
  (hr:EX l (.row n T'.length) i' d' (T'++[xK o VZ [] [(a:Int),(b:Int)] (plW l i)]) r):EX l (.row n a) i d T r:=by
 obtain⟨f,h⟩:=h;obtain⟨g,hr⟩:=hr;refine⟨max f g+1,?_⟩;rw[PX,ho,if_neg h0,zCm _ _ _ _ _ _ h _ (Nat.le_max_left f g)];have:zFR n=true:=by unfold zFR;simpa using hn
 simp only[this,if_true];exact zCm _ _ _ _ _ _ hr _ (Nat.le_max_right f g)
def yEr {l:List Tok} {a i d:Nat} {T:List Node} {o:Int} {b i' d':Nat} {T':List Node} (ho:yG l i (opsX 3)=o) (h0:o≠0) (h:EX l (.lev 4) (i+1) d T (.ok b i' d' T')) :
  EX l (.row 3 a) i d T (.ok T'.length i' d' (T'++[xK o VZ [] [(a:Int),(b:Int)] (plW l i)])):=by
 obtain⟨f,h⟩:=h;refine⟨f+1,?_⟩;rw[PX,ho,if_neg h0,h]
 rfl
def BX(e:ET)(n:Nat):Prop:=∀(l:List Tok) (L:List BT) (i d:Nat) (T:List Node) (r:List BT),(l.map Tok.b).drop i=e.wk n++r→e.wf L→e.isE→e.dk n+d≤12→(∀k,n≤k→∀o ∈ opsX k,isB r o.1=false) →
 ∃(a:Nat) (T':List Node),T'.map Node.s=(e.g (T.map Node.s)).1∧(e.g (T.map Node.s)).2=[(a:Int)]∧EX l (.lev n) i d T (.ok a (i+(e.wk n).length) d T')
def AX(e:ET)(n:Nat):Prop:=∀(l:List Tok) (L:List BT) (i d:Nat) (T:List Node) (r:List BT),(l.map Tok.b).drop i=e.wk n++r→e.wf L→e.isE→e.dk n+d≤12→zKN n r →
 ∃(a:Nat) (T':List Node),T'.map Node.s=(e.g (T.map Node.s)).1∧(e.g (T.map Node.s)).2=[(a:Int)]∧∀R,EX l (.row n a) (i+(e.wk n).length) d T' R→EX l (.lev n) i d T R
def yBm{e:ET}{n:Nat}(h:AX e n):BX e n:=by
 intro l L i d T r h1 h2 h3 h4 h5;obtain⟨a,T',q1,q2,q3⟩:=h l L i d T r h1 h2 h3 h4 fun k hk=>h5 k (by omega)
 refine⟨a,T',q1,q2,q3 _ (zXT (zK5 ?_))⟩;rw[qH h1];exact h5 n (Nat.le_refl _)
def zMN(L:List BT):∀(e:ET) (m n:Nat) (r:List BT),e.isE→e.wf L→(n=2∨n=6)→n<m→isB (e.wk m++r) (wX n)=false
 |e,m,n,r,h1,h2,hn,hm=>by
  unfold ET.wk parB;split
  ·rcases hn with rfl|rfl<;>rfl
  rename_i hl;cases e with
  |lit b=>obtain⟨_,hb⟩:=h2;rcases hb with hb|hb|hb<;>simp [ET.ws,isB,hb]
  |word w v =>
   obtain⟨_,hv⟩:=h2;have:w≠wX n:=by
    rintro rfl;rcases hn with rfl|rfl<;>exact absurd hv (by simp [wX,zB8,wV])
   simp [ET.ws,isB,nmB,this]
  |var b=>obtain⟨_,hb⟩:=h2;simp [ET.ws,isB,hb]
  |self=>rfl
  |un k e =>
   obtain⟨hk,_⟩:=h2;simp only[ET.lvl] at hl;have:wX k≠wX n:=by
    rcases hn with rfl|rfl<;>rcases hk with rfl|rfl<;>first|omega|decide
   simp [ET.ws,isB,unBT,this]
  |bin k o x y =>
   obtain⟨hk,⟨w,hw⟩,⟨hx1,hx2⟩,_⟩:=h2;simp only[ET.lvl] at hl;have hk2:k≠2:=by rintro rfl;simp [opsX] at hw
   rw[ET.ws,List.append_assoc];exact zMN L x (xLv k) n _ hx1 hx2 hn (by unfold xLv;split<;>omega)
  |call w op ks =>
   obtain⟨⟨_,_,hw,_⟩,_⟩:=h2;have:w≠wX n:=by
    rintro rfl;rcases hn with rfl|rfl<;>exact absurd hw (by simp [wX,jZ,wV])
   simp [ET.ws,isB,nmB,this]
  |one e=>cases h1
  |cons e ks=>cases h1
 termination_by e=>e
def zLo{e:ET}{n:Nat}(h:e.lvl≠n):e.wk (n+1)=e.wk n:=by
 unfold ET.wk parB
 by_cases h1:e.lvl<n
 ·rw[if_pos h1,if_pos (by omega)]
 rw[if_neg h1,if_neg (by omega)]
def zXR{e:ET}{n:Nat}(h:e.lvl≠n):e.dk (n+1)=e.dk n:=by
 unfold ET.dk
 by_cases h1:e.lvl<n
 ·rw[if_pos h1,if_pos (by omega)]
 rw[if_neg h1,if_neg (by omega)]
def zPZ{e:ET}{n:Nat}(hn:n<6)(hn2:n≠2)(he:e.lvl≠n)(h:BX e (n+1)):AX e n:=by
 intro l L i d T r h1 h2 h3 h4 h5;obtain⟨a,T',q1,q2,q3⟩:=h l L i d T r (by rw[zLo he];exact h1) h2 h3 (by rw[zXR he];exact h4) fun k hk=>h5 k (by omega)
 rw[zLo he] at q3;exact⟨a,T',q1,q2,fun R hR=>zTF hn hn2 q3 hR⟩
def yAw{e:ET}{n:Nat}(hn:n<7)(he:e.lvl≠n)(h:BX e (n+1)):BX e n:=by
 rcases(by omega:(n=2∨n=6)∨n<6∧n≠2) with h'|⟨h1,h2⟩
 ·intro l L i d T r h1 h2 h3 h4 h5;obtain⟨a,T',q1,q2,q3⟩:=h l L i d T r (by rw[zLo he];exact h1) h2 h3 (by rw[zXR he];exact h4) fun k hk=>h5 k (by omega)
  rw[zLo he] at q3;refine⟨a,T',q1,q2,yGX h' ?_ q3⟩;rw[kF,h1,← zLo he];exact zMN L e (n+1) n r h3 h2 h' (Nat.lt_succ_self n)
 exact yBm (zPZ h1 h2 he h)
def zRn{e:ET}{n:Nat}:∀k,n+k≤7→(∀m,n≤m→m<n+k→e.lvl≠m)→BX e (n+k)→BX e n
 |0,_,_,h=>h
 |k+1,h1,h2,h=>zRn k (by omega) (fun m a b=>h2 m a (by omega)) (yAw (by omega) (h2 _ (by omega) (by omega)) h)
def zUm{e:ET}(h:BX e (min e.lvl 7)):∀n,n≤7→BX e n:=by
 have low:∀n,n≤min e.lvl 7→BX e n:=fun n hn=>zRn (min e.lvl 7 - n) (by omega) (fun m a b=>by omega) (by rw[show n+(min e.lvl 7 - n)=min e.lvl 7 by omega];exact h)
 intro n hn;rcases Nat.lt_or_ge e.lvl n with h7|h7
 ·have top:BX e 7:=by
   intro l L i d T r h1 h2 h3 h4 h5;have hl:e.lvl<7:=by omega
   have hw:e.wk 7=sgB [40]::(e.wk 0++[sgB [41]]):=by unfold ET.wk parB;rw[if_pos hl,if_neg (by omega)]
   have hd:e.dk 7=e.dk 0+1:=by unfold ET.dk;rw[if_pos hl,if_neg (by omega)]
   rw[hw] at h1;have h1':(l.map Tok.b).drop i=sgB [40]::(e.wk 0++(sgB [41]::r)):=by rw[h1];simp
   obtain⟨t,t1,t2,t3⟩:=vM h1';obtain⟨a,T',q1,q2,f,q3⟩:=low 0 (by omega) l L (i+1) (d+1) T _ t3 h2 h3 (by omega) (fun k _ o ho=>by
    have:∀o ∈ opsX k,o.1≠[41]:=by
     intro o ho;rcases k with _|_|_|_|_|_|k<;>simp [opsX] at ho<;>(try rcases ho with rfl|rfl|rfl|rfl|rfl|rfl)<;>(try subst ho)<;>simp<;>(try rcases ho with rfl|rfl)<;>simp
    have:=this o ho;simp [isB,sgB,Ne.symm this])
   have h41:isW l (i+1+(e.wk 0).length) [41]=true:=by rw[kF,qH t3];rfl
   refine⟨a,T',q1,q2,f+1,?_⟩;have hk:t.k=7∧t.s=[40]:=by
    unfold Tok.b sgB at t2;injection t2 with a1 a2;injection a2 with a2 a3
    exact⟨a1,a2⟩
   have h40:isW l i [40]=true:=by rw[kF,h1'];rfl
   rw[PX,if_neg (by omega),if_neg (by omega),t1];simp only[hk.1];rw[if_neg (by decide),if_neg (by decide),if_neg (by decide),if_neg (by decide),if_pos h40,if_neg (by omega),q3];simp only[h41,if_true];rw[hw];simp only[List.length_cons,List.length_append,List.length_nil]
   congr 2<;>omega
  exact zRn (7 - n) (by omega) (fun m a b=>by omega) (by rw[show n+(7 - n)=7 by omega];exact top)
 exact low n (by omega)
def zN4{l:List Tok}{i n:Nat}{o:Int}{w:List Nat}{r:List BT}(h:(w,o) ∈ opsX n)(hd:(l.map Tok.b).drop i=opBT n o::r):yG l i (opsX n)=o∧o≠0:=by
 have hw:∀w,isW l i w=isB (opBT n o::r) w:=fun w=>by rw[kF,hd]
 rcases n with _|_|_|_|_|_|n<;>simp only[opsX,List.mem_cons,List.mem_nil_iff,or_false,Prod.mk.injEq] at h
 ·obtain⟨_,rfl⟩:=h;simp [yG,opsX,hw,isB,opBT,opWd]
 ·obtain⟨_,rfl⟩:=h;simp [yG,opsX,hw,isB,opBT,opWd]
 ·rcases h with ⟨_,rfl⟩|⟨_,rfl⟩|⟨_,rfl⟩|⟨_,rfl⟩|⟨_,rfl⟩|⟨_,rfl⟩<;>simp [yG,opsX,hw,isB,opBT,opWd]
 ·rcases h with ⟨_,rfl⟩|⟨_,rfl⟩<;>simp [yG,opsX,hw,isB,opBT,opWd]
 rcases h with ⟨_,rfl⟩|⟨_,rfl⟩<;>simp [yG,opsX,hw,isB,opBT,opWd]
def zQj{n:Nat}{o:Int}{w:List Nat}{r:List BT}(h:(w,o) ∈ opsX n):zKN n (opBT n o::r):=by
 intro k hk o' ho';have q:∀m:Nat,∀x ∈ opsX m,x.1=opWd x.2∧(m=0→x.2=4)∧(m=1→x.2=5)∧(m=3→7≤x.2∧x.2≤12)∧(m=4→13≤x.2∧x.2≤14)∧(m=5→15≤x.2∧x.2≤16)∧m≠2∧m≤5:=by
  intro m x hx;rcases m with _|_|_|_|_|_|m<;>simp only[opsX,List.mem_cons,List.mem_nil_iff,or_false] at hx
  ·subst hx;decide
  ·subst hx;decide
  ·rcases hx with rfl|rfl|rfl|rfl|rfl|rfl<;>decide
  ·rcases hx with rfl|rfl<;>decide
  rcases hx with rfl|rfl<;>decide
 have inj:∀a b:Int,4≤a→a≤16→a≠6→4≤b→b≤16→b≠6→opWd a=opWd b→a=b:=by
  intro a b h1 h2 h3 h4 h5 h6 h7;have e1:a=4∨a=5∨a=7∨a=8∨a=9∨a=10∨a=11∨a=12∨a=13∨a=14∨a=15∨a=16:=by omega
  have e2:b=4∨b=5∨b=7∨b=8∨b=9∨b=10∨b=11∨b=12∨b=13∨b=14∨b=15∨b=16:=by omega
  rcases e1 with rfl|rfl|rfl|rfl|rfl|rfl|rfl|rfl|rfl|rfl|rfl|rfl<;>rcases e2 with rfl|rfl|rfl|rfl|rfl|rfl|rfl|rfl|rfl|rfl|rfl|rfl<;>first|rfl|exact absurd h7 (by decide)
 obtain⟨a1,a2,a3,a4,a5,a6,a7,a8⟩:=q _ _ h;obtain⟨b1,b2,b3,b4,b5,b6,b7,b8⟩:=q _ _ ho';have hne:opWd o≠o'.1:=by
  rw[b1];intro he;have:=inj o o'.2 (by omega) (by omega) (by omega) (by omega) (by omega) (by omega) he;omega
 simp [isB,opBT,hne]
def zQt{n:Nat}{w:List Nat}{r:List BT}(h:w=[41]∨w=[44]):∀k,n≤k→∀o ∈ opsX k,isB (sgB w::r) o.1=false:=by
 intro k _ o ho;have:w≠o.1:=by
  rcases k with _|_|_|_|_|_|m<;>simp only[opsX,List.mem_cons,List.mem_nil_iff,or_false] at ho
  ·subst ho;rcases h with rfl|rfl<;>decide
  ·subst ho;rcases h with rfl|rfl<;>decide
  ·rcases ho with rfl|rfl|rfl|rfl|rfl|rfl<;>rcases h with rfl|rfl<;>decide
  ·rcases ho with rfl|rfl<;>rcases h with rfl|rfl<;>decide
  rcases ho with rfl|rfl<;>rcases h with rfl|rfl<;>decide
 simp [isB,sgB,this]
def CX(ks:ET):Prop:=∀(l:List Tok) (L:List BT) (i d:Nat) (T:List Node) (r:List BT) (op:Int) (least most:Nat) (kids:List Int) (p:Int×Int),
 (l.map Tok.b).drop i=ks.ws++sgB [41]::r→ks.wf L→0<ks.num→ks.dp+d≤12→least≤kids.length+ks.num→kids.length+ks.num≤most →
 ∃T',T'.map Node.s=(ks.g (T.map Node.s)).1∧EX l (.call op least most kids p) i d T (.ok T'.length (i+ks.ws.length+1) (d - 1) (T'++[xK op VZ [] (kids++(ks.g (T.map Node.s)).2) p]))
def RX'(e:ET):Prop:=(∀n,n≤7→BX e n)∧∀n,n<6→n≠2→¬ (n=3∧e.lvl=3)→AX e n
def zRb{e:ET}(h:BX e (min e.lvl 7))(hA:e.lvl<6→e.lvl≠2→e.lvl≠3→AX e e.lvl):RX' e:=by
 refine⟨zUm h,fun n h1 h2 h3=>?_⟩
 by_cases he:e.lvl=n
 ·subst he;exact hA h1 h2 fun h=>h3 ⟨h,h⟩
 exact zPZ h1 h2 he (zUm h (n+1) (by omega))
def zGv {e:ET} (hl:e.lvl=8) (h:∀(l:List Tok) (L:List BT) (i d:Nat) (T:List Node) (r:List BT),(l.map Tok.b).drop i=e.ws++r→e.wf L→e.isE→e.dp+d≤12 →
  ∃(a:Nat) (T':List Node),T'.map Node.s=(e.g (T.map Node.s)).1∧(e.g (T.map Node.s)).2=[(a:Int)]∧EX l (.lev 7) i d T (.ok a (i+e.ws.length) d T')):RX' e:=by
 have hk:e.wk 7=e.ws:=by unfold ET.wk parB;rw[if_neg (by omega)]
 have hd:e.dk 7=e.dp:=ET.dk_high (by omega);refine zRb ?_ fun h'=>by omega
 rw[hl];intro l L i d T r h1 h2 h3 h4 h5;rw[show min 8 7=7 from rfl] at *;rw[hk] at h1 ⊢;rw[hd] at h4;exact h l L i d T r h1 h2 h3 h4
def len1{T:List Node}:(T.map Node.s).length=T.length:=by simp
theorem ET.reads:∀e:ET,(e.isE→RX' e)∧CX e
 |.lit b=>by
  refine⟨fun _=>zGv rfl ?_,fun _ _ _ _ _ _ _ _ _ _ _ _ _ h=>absurd h (Nat.lt_irrefl 0)⟩;intro l L i d T r h1 h2 h3 h4;obtain⟨t,t1,t2,t3⟩:=vM (show (l.map Tok.b).drop i=b::r from h1);subst t2;refine⟨T.length,T++[xK 1 t.v [] [] (t.line,t.col)],by simp [ET.g,wJ,Tok.b],by simp [ET.g],1,?_⟩;rw[PX,if_neg (by omega),if_neg (by omega),t1];exact if_pos h2.2
 |.word w v=>by
  refine⟨fun _=>zGv rfl ?_,fun _ _ _ _ _ _ _ _ _ _ _ _ _ h=>absurd h (Nat.lt_irrefl 0)⟩;intro l L i d T r h1 h2 h3 h4;obtain⟨t,t1,t2,t3⟩:=vM (show (l.map Tok.b).drop i=nmB w::r from h1);unfold Tok.b nmB at t2;injection t2 with a1 a2;injection a2 with a2 a3
  refine⟨T.length,T++[xK 1 v [] [] (t.line,t.col)],by simp [ET.g,wJ],by simp [ET.g],1,?_⟩;rw[PX,if_neg (by omega),if_neg (by omega),t1];simp only[a1,a2,h2.1,h2.2]
  rfl
 |.var b=>by
  refine⟨fun _=>zGv rfl ?_,fun _ _ _ _ _ _ _ _ _ _ _ _ _ h=>absurd h (Nat.lt_irrefl 0)⟩;intro l L i d T r h1 h2 h3 h4;obtain⟨t,t1,t2,t3⟩:=vM (show (l.map Tok.b).drop i=b::r from h1);subst t2;refine⟨T.length,T++[xK 2 VZ t.s [] (t.line,t.col)],by simp [ET.g,wJ,Tok.b],by simp [ET.g],1,?_⟩;have hk:t.k=2:=h2.2;rw[PX,if_neg (by omega),if_neg (by omega),t1];simp only[hk]
  rfl
 |.self=>by
  refine⟨fun _=>zGv rfl ?_,fun _ _ _ _ _ _ _ _ _ _ _ _ _ h=>absurd h (Nat.lt_irrefl 0)⟩;intro l L i d T r h1 h2 h3 h4;obtain⟨t,t1,t2,t3⟩:=vM (show (l.map Tok.b).drop i=(3,[],VZ)::r from h1);unfold Tok.b at t2;injection t2 with a1 a2
  refine⟨T.length,T++[xK 3 VZ [] [] (t.line,t.col)],by simp [ET.g,wJ],by simp [ET.g],1,?_⟩;rw[PX,if_neg (by omega),if_neg (by omega),t1];simp only[a1]
  rfl
 |.call w op ks=>by
  refine⟨fun _=>zGv rfl ?_,fun _ _ _ _ _ _ _ _ _ _ _ _ _ h=>absurd h (Nat.lt_irrefl 0)⟩;intro l L i d T r h1 h2 h3 h4;obtain⟨⟨least,most,c1,c2,c3⟩,c4,c5⟩:=h2;have h1':(l.map Tok.b).drop i=nmB w::(sgB [40]::(ks.ws++sgB [41]::r)):=by rw[h1,ET.ws];simp
  obtain⟨t,t1,t2,t3⟩:=vM h1';obtain⟨u,u1,u2,u3⟩:=vM t3;unfold Tok.b nmB at t2;injection t2 with a1 a2;injection a2 with a2 a3
  have h4':ks.dp+1+d≤12:=h4;obtain⟨T',q1,f,q2⟩:=(ET.reads ks).2 l L (i+1+1) (d+1) T r op least most [] (t.line,t.col) u3 c5 c4 (by omega) (by simpa using c2) (by simpa using c3);have h40:isW l (i+1) [40]=true:=by rw[kF,t3];rfl
  refine⟨T'.length,T'++[xK op VZ [] ((ks.g (T.map Node.s)).2) (t.line,t.col)],by rw[List.map_append,q1,ET.g];simp [wJ],by rw[ET.g,← q1,len1],f+1,?_⟩;rw[PX,if_neg (by omega),if_neg (by omega),t1];simp only[a1,a2,c1];rw[if_neg (by decide),if_neg (by decide),if_neg (by decide),if_pos trivial,if_pos h40,if_neg (by omega),show i+2=i+1+1 from rfl,q2];simp only[ET.ws,List.length_cons,List.length_append,List.length_nil,List.nil_append]
  congr 2<;>omega
 |.un n e=>by
  refine⟨fun _=>zRb ?_ fun h1 h2 h3=>?_,fun _ _ _ _ _ _ _ _ _ _ _ _ _ h=>absurd h (Nat.lt_irrefl 0)⟩
  ·intro l L i d T r h1 h2 h3 h4 h5;obtain⟨hn,he1,he2⟩:=h2;have hm:min (ET.un n e).lvl 7=n:=by simp only[ET.lvl];omega
   rw[hm] at h1 h4 h5 ⊢;have hw:(ET.un n e).wk n=unBT n::e.wk n:=by unfold ET.wk parB;rw[if_neg (by simp [ET.lvl])];rfl
   have hd:(ET.un n e).dk n=e.dk n+1:=by rw[ET.dk_high (by simp [ET.lvl])];rfl
   rw[hw] at h1 ⊢;obtain⟨t,t1,t2,t3⟩:=vM (show (l.map Tok.b).drop i=unBT n::(e.wk n++r) from h1);have hi:isW l i (wX n)=true:=by
    rw[kF,h1];rcases hn with rfl|rfl<;>rfl
   obtain⟨a,T',q1,q2,f,q3⟩:=((ET.reads e).1 he1).1 n (by omega) l L (i+1) (d+1) T r t3 he2 he1 (by omega) h5;refine⟨T'.length,T'++[xK (oX n) VZ [] [(a:Int)] (plW l i)],by rw[List.map_append,q1,ET.g,q2];simp [wJ],by rw[ET.g,← q1,len1],f+1,?_⟩;rw[PX,if_pos hn,if_pos hi,if_neg (by omega),q3];simp only[List.length_cons]
   congr 2<;>omega
  intro l L i d T r _ h5;obtain⟨hn,_⟩:=h5;simp only[ET.lvl] at h1 h2 h3;omega
 |.bin n o x y=>by
  have rd:n≠3→AX (.bin n o x y) n:=by
   intro hn3 l L i d T r h1 h2 h3 h4 h5;obtain⟨hn,⟨w,hw⟩,⟨hx1,hx2⟩,hy1,hy2⟩:=h2;have hn2:n≠2:=by rintro rfl;simp [opsX] at hw
   have hxl:xLv n=n:=by unfold xLv;rw[if_neg hn3]
   have hwk:(ET.bin n o x y).wk n=x.wk n++opBT n o::y.wk (n+1):=by
    unfold ET.wk parB;rw[if_neg (by simp [ET.lvl])];rw[ET.ws,hxl];rfl
   have hd:(ET.bin n o x y).dk n=max (x.dk n) (y.dk (n+1)):=by
    rw[ET.dk_high (by simp [ET.lvl]),ET.dp,if_neg hn3];rfl
   rw[hwk] at h1 ⊢;have h1':(l.map Tok.b).drop i=x.wk n++(opBT n o::(y.wk (n+1)++r)):=by rw[h1];simp
   obtain⟨a,T1,q1,q2,q3⟩:=((ET.reads x).1 hx1).2 n hn hn2 (by omega) l L i d T _ h1' hx2 hx1 (by omega) (zQj hw);have hat:=qH h1';obtain⟨o1,o2⟩:=zN4 hw hat;obtain⟨t,t1,t2,t3⟩:=vM hat;obtain⟨b,T2,p1,p2,p3⟩:=((ET.reads y).1 hy1).1 (n+1) (by omega) l L (i+(x.wk n).length+1) d T1 r t3 hy2 hy1 (by omega) (fun k hk=>h5 k (by omega));refine⟨T2.length,T2++[xK o VZ [] [(a:Int),(b:Int)] (plW l (i+(x.wk n).length))],?_,?_,fun R hR=>q3 R (yHD o1 o2 hn3 p3 ?_)⟩
   ·rw[List.map_append,p1,ET.g,q2,← q1,p2];simp [wJ]
   ·rw[ET.g,← q1,← p1,len1]
   simp only[List.length_append,List.length_cons] at hR;rw[show i+(x.wk n).length+1+(y.wk (n+1)).length=i+((x.wk n).length+((y.wk (n+1)).length+1)) by omega];exact hR
  refine⟨fun _=>zRb ?_ fun h1 h2 h3=>rd h3,fun _ _ _ _ _ _ _ _ _ _ _ _ _ h=>absurd h (Nat.lt_irrefl 0)⟩
  by_cases hn3:n=3
  ·subst hn3;intro l L i d T r h1 h2 h3 h4 h5;obtain⟨hn,⟨w,hw⟩,⟨hx1,hx2⟩,hy1,hy2⟩:=h2;have hm:min (ET.bin 3 o x y).lvl 7=3:=rfl;rw[hm] at h1 h4 h5 ⊢;have hwk:(ET.bin 3 o x y).wk 3=x.wk 4++opBT 3 o::y.wk 4:=by
    unfold ET.wk parB;rw[if_neg (by simp [ET.lvl])];rfl
   have hd:(ET.bin 3 o x y).dk 3=max (x.dk 4) (y.dk 4):=by
    rw[ET.dk_high (by simp [ET.lvl])];rfl
   rw[hwk] at h1 ⊢;have h1':(l.map Tok.b).drop i=x.wk 4++(opBT 3 o::(y.wk 4++r)):=by rw[h1];simp
   obtain⟨a,T1,q1,q2,q3⟩:=((ET.reads x).1 hx1).1 4 (by omega) l L i d T _ h1' hx2 hx1 (by omega) (fun k hk=>zQj hw k (by omega));have hat:=qH h1';obtain⟨o1,o2⟩:=zN4 hw hat;obtain⟨t,t1,t2,t3⟩:=vM hat;obtain⟨b,T2,p1,p2,p3⟩:=((ET.reads y).1 hy1).1 4 (by omega) l L (i+(x.wk 4).length+1) d T1 r t3 hy2 hy1 (by omega) (fun k hk=>h5 k (by omega));refine⟨T2.length,T2++[xK o VZ [] [(a:Int),(b:Int)] (plW l (i+(x.wk 4).length))],?_,?_,?_⟩
   ·rw[List.map_append,p1,ET.g,q2,← q1,p2];simp [wJ]
   ·rw[ET.g,← q1,← p1,len1]
   have:=zTF (by omega) (by omega) q3 (yEr o1 o2 p3);simp only[List.length_append,List.length_cons];rw[show i+((x.wk 4).length+((y.wk 4).length+1))=i+(x.wk 4).length+1+(y.wk 4).length by omega];exact this
  intro l L i d T r h1 h2 h3 h4 h5;have hn:=h2.1;have hm:min (ET.bin n o x y).lvl 7=n:=by simp only[ET.lvl];omega
  rw[hm] at h1 h4 h5 ⊢;exact yBm (rd hn3) l L i d T r h1 h2 h3 h4 h5
 |.one e=>by
  refine⟨fun h=>h.elim,?_⟩;intro l L i d T r op least most kids p h1 h2 h3 h4 h5 h6;obtain⟨he1,he2⟩:=h2;have hwk:e.wk 0=e.ws:=by unfold ET.wk parB;rw[if_neg (by omega)]
  have hdk:e.dk 0=e.dp:=ET.dk_high (by omega);simp only[ET.dp] at h4;simp only[ET.num] at h5 h6;rw[ET.ws] at h1 ⊢;rw[← hwk] at h1 ⊢;obtain⟨a,T',q1,q2,f,q3⟩:=((ET.reads e).1 he1).1 0 (by omega) l L i d T _ h1 he2 he1 (by omega) (zQt (.inl rfl));have hat:=qH h1;have h41:isW l (i+(e.wk 0).length) [41]=true:=by rw[kF,hat];rfl
  have h44:isW l (i+(e.wk 0).length) [44]=false:=by rw[kF,hat];rfl
  refine⟨T',by rw[q1,ET.g],f+1,?_⟩;rw[PX,q3];dsimp only;rw[h41,h44,ET.g,q2];have hnl:¬ kids.length+1<least:=by omega
  simp [hnl]
 |.cons e ks=>by
  refine⟨fun h=>h.elim,?_⟩;intro l L i d T r op least most kids p h1 h2 h3 h4 h5 h6;obtain⟨⟨he1,he2⟩,hk1,hk2⟩:=h2;have hwk:e.wk 0=e.ws:=by unfold ET.wk parB;rw[if_neg (by omega)]
  have hdk:e.dk 0=e.dp:=ET.dk_high (by omega);simp only[ET.dp] at h4;simp only[ET.num] at h5 h6;rw[ET.ws] at h1 ⊢;rw[← hwk] at h1 ⊢;have h1':(l.map Tok.b).drop i=e.wk 0++(sgB [44]::(ks.ws++sgB [41]::r)):=by rw[h1];simp
  obtain⟨a,T1,q1,q2,f,q3⟩:=((ET.reads e).1 he1).1 0 (by omega) l L i d T _ h1' he2 he1 (by omega) (zQt (.inr rfl));have hat:=qH h1';have h41:isW l (i+(e.wk 0).length) [41]=false:=by rw[kF,hat];rfl
  have h44:isW l (i+(e.wk 0).length) [44]=true:=by rw[kF,hat];rfl
  obtain⟨t,t1,t2,t3⟩:=vM hat;obtain⟨T',p1,g,p2⟩:=(ET.reads ks).2 l L (i+(e.wk 0).length+1) d T1 r op least most (kids++[(a:Int)]) p t3 hk2 hk1 (by omega) (by simp;omega) (by simp;omega);refine⟨T',by rw[p1,ET.g,q1],max f g+1,?_⟩;rw[PX,zCm _ _ _ _ _ _ q3 _ (Nat.le_max_left f g)];dsimp only;rw[h41,h44,ET.g,q2,← q1];have:((kids++[(a:Int)]).length==most)=false:=by simp;omega
  simp only[this,Bool.and_false,Bool.false_and,Bool.or_self,Bool.false_eq_true,if_false,if_true];rw[zCm _ _ _ _ _ _ p2 _ (Nat.le_max_right f g)];simp only[List.length_append,List.length_cons,List.append_assoc]
  congr 2<;>omega
end Go.Ab
