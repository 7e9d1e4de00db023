/- Lemmas. -/
import Derived.Test.YtchgjnkleakhoaaGreatDoorG26
set_option maxRecDepth 1000000
set_option maxHeartbeats 40000000
set_option linter.all false
namespace Go.Ab
variable (vp:List Nat→Val×Int)
def Sep(r:List Nat):Prop:=∀c r',r=c::r'→c=32∨c=40∨c=41∨c=44∨c=93
def LX(p:List Nat)(ws:List BTok):Prop:=∀r,Sep r→lexB vp (p++r)=andL (some ws) (lexB vp r)
def LY(p:List Nat)(ws:List BTok):Prop:=∀r,lexB vp (p++r)=andL (some ws) (lexB vp r)
variable {vp}
theorem zZU{α:Type}(a:Option (List α)):andL (some []) a=a:=by cases a<;>rfl
theorem zO2{α:Type}(a b:List α)(x:Option (List α)):andL (some (a++b)) x=andL (some a) (andL (some b) x):=by cases x<;>simp [andL]
theorem Sep.nil:Sep []:=fun c r' h=>by cases h
theorem Sep.cons{c:Nat}{r:List Nat}(h:c=32∨c=40∨c=41∨c=44∨c=93):Sep (c::r):=fun c' r' h'=>by cases h';exact h
theorem LX.app{p q:List Nat}{a b:List BTok}(h1:LX vp p a)(h2:LX vp q b)(hs:∀r,Sep r→Sep (q++r)):LX vp (p++q) (a++b):=fun r hr=>by
 rw[List.append_assoc,h1 _ (hs r hr),h2 r hr,zO2]
theorem LY.app{p q:List Nat}{a b:List BTok}(h1:LY vp p a)(h2:LX vp q b):LX vp (p++q) (a++b):=fun r hr=>by
 rw[List.append_assoc,h1 _,h2 r hr,zO2]
theorem LY.nil:LY vp [] []:=fun r=>by rw[List.nil_append,zZU]
theorem LY.one{c:Nat}(h:c ∈ signs1)(h2:c≠60∧c≠62∧c≠46):LY vp [c] [sgB [c]]:=fun r=>zWN vp h (no2 h2)
theorem Sep.named{r:List Nat}(h:Sep r):cntW yY r=0:=by
 cases r with
 |nil=>rfl
 |cons c r=>rcases h c r rfl with rfl|rfl|rfl|rfl|rfl<;>rfl
theorem Sep.head{r:List Nat}(h:Sep r):nth0 r 0≠46∧wC (nth0 r 0)=false:=by
 cases r with
 |nil=>exact⟨by decide,by decide⟩
 |cons c r=>rcases h c r rfl with rfl|rfl|rfl|rfl|rfl<;>exact⟨by simp [nth0],by simp [nth0];decide⟩
def yGS(w:List Nat):Prop:=∃c p,w=c::p∧wC c=true∧(∀x ∈ c::p,yY x=true)∧(c::p).length≤12
structure VtOK (vt:Val→List Nat):Prop where
 parse:∀p v,vp p=(v,0)→vt v=p
 sym:∀w,yGS w→vt (VSym w)=35::w
 tru:vt ⟨4,1,[]⟩=[116,114,117,101]
 fals:vt ⟨4,0,[]⟩=[102,97,108,115,101]
 nul:vt ⟨0,0,[]⟩=[110,117,108,108]
inductive UT where
 |any
 |cmp (op:Int) (e:ET)
 |rng (low high:Bool) (a b:ET)
 |not (t:UT)
 |list (ks:UT)
 |one (t:UT)
 |cons (t ks:UT)
def ET.ns(e:ET):List SNode:=(e.g []).1
def UT.g:UT→List STst→List STst×List Int
 |.any,T=>(T++[⟨1,[],[],false,false,[]⟩],[(T.length:Int)])
 |.cmp op e,T=>(T++[⟨op,e.ns,[],false,false,[]⟩],[(T.length:Int)])
 |.rng lo hi a b,T=>(T++[⟨7,a.ns,b.ns,lo,hi,[]⟩],[(T.length:Int)])
 |.not t,T=>((t.g T).1++[⟨8,[],[],false,false,(t.g T).2⟩],[((t.g T).1.length:Int)])
 |.list ks,T=>((ks.g T).1++[⟨9,[],[],false,false,(ks.g T).2⟩],[((ks.g T).1.length:Int)])
 |.one t,T=>t.g T
 |.cons t ks,T=>((ks.g (t.g T).1).1,(t.g T).2++(ks.g (t.g T).1).2)
def UT.isO:UT→Prop
 |.list _=>False
 |.one _=>False
 |.cons _ _=>False
 |_=>True
def UT.isT:UT→Prop
 |.one _=>False
 |.cons _ _=>False
 |_=>True
theorem UT.isO.t{u:UT}(h:u.isO):u.isT:=by cases u<;>first|trivial|exact h.elim
def UT.num:UT→Nat
 |.one _=>1
 |.cons _ ks=>ks.num+1
 |_=>0
structure EOK (L:List BT) (e:ET):Prop where
 isE:e.isE
 wf:e.wf L
 deep:e.dp≤12
 few:e.ns.length≤60
def UT.wf(L:List BT):UT→Prop
 |.any=>True
 |.cmp op e=>(2≤op∧op≤6)∧EOK L e
 |.rng _ _ a b=>EOK L a∧EOK L b
 |.not t=>t.isT∧t.wf L
 |.list ks=>2≤ks.num∧ks.wf L
 |.one t=>t.isO∧t.wf L
 |.cons t ks=>(t.isO∧t.wf L)∧0<ks.num∧ks.wf L
def UT.nd:UT→Nat
 |.not t=>t.nd+1
 |.list ks=>ks.nd
 |.one t=>t.nd
 |.cons t ks=>max t.nd ks.nd
 |_=>0
def UT.tl:UT→Nat
 |.any=>1
 |.cmp _ e=>e.tl+3
 |.rng _ _ a b=>a.tl+b.tl+6
 |.not t=>t.tl+5
 |.list ks=>ks.tl
 |.one t=>t.tl
 |.cons t ks=>t.tl+2+ks.tl
def zZW{l:List Tok}{i j:Nat}(h:i≤j):wS l j≤wS l i:=by
 obtain⟨k,rfl⟩:∃k,j=i+k:=⟨j - i,by omega⟩;clear h
 induction k with
 |zero=>exact Nat.le_refl _
 |succ k ih =>
  refine Nat.le_trans ?_ ih;rcases Nat.lt_or_ge (i+k) l.length with h|h
  ·rw[zLU (i:=i+k) (List.getElem?_eq_getElem h)];exact Nat.le_add_left _ _
  unfold wS;rw[List.drop_of_length_le (by omega)];simp
def yHF{l:List Tok}{i j:Nat}(h:i<j)(hj:j≤l.length):9+wS l j≤wS l i:=by
 rw[zLU (List.getElem?_eq_getElem (by omega:i<l.length))];have:=zZW (l:=l) (show i+1≤j from h);omega
def zGe{l:List Tok}{i:Nat}(hi:i≤l.length)(h:(zH l i).2.2=0):∃e,EOK (l.map Tok.b) e∧(zH l i).1.map Node.s=e.ns∧i<(zH l i).2.1∧(zH l i).2.1≤l.length∧e.tl+wS l (zH l i).2.1≤wS l i:=by
 obtain⟨f,a,i',d',T,h1,h2,h3⟩:=(zEy hi).1 h;obtain⟨_,e,e1,e2,e3,e4,e5,e6⟩:=zI2 _ _ _ _ _ _ _ _ _ h1 (by omega) (by omega);obtain⟨k1,k2,k3,k4,k5⟩:=xO _ _ _ _ _ _ h1 hi (by omega) trivial;rw[h3];have hlen:T.length=e.ns.length:=by have:=congrArg List.length e3;simpa [ET.ns] using this
 refine⟨e,⟨e1,e2,?_,by omega⟩,e3,?_,k2,e6⟩
 ·rw[ET.dk_high (Nat.zero_le _)] at e5;omega
 simp only[List.length_nil] at k4;dsimp only;omega
def GUt(l:List Tok)(c:UC)(i n:Nat)(T:List STst):RU→Prop
 |.ok k i' n' T'=>n'=n∧∃u:UT,(match c with|.one=>u.isO|_=>u.isT)∧u.wf (l.map Tok.b)∧T'.map Test.s=(u.g T).1∧(u.g T).2=[(k:Int)]∧(n≤4→u.nd+n≤4)∧u.tl+2 * wS l i'≤2 * wS l i
 |.oks K i' n' T'=>n'=n∧((K=c.kl∧T'.map Test.s=T∧wS l i'≤wS l i)∨∃us:UT,0<us.num∧us.wf (l.map Tok.b)∧T'.map Test.s=(us.g T).1∧xA K=xA c.kl++(us.g T).2∧K.length=c.kl.length+us.num∧(n≤4→us.nd+n≤4)∧us.tl+2+2 * wS l i'≤2 * wS l i)
 |.pan _ _=>True
def zNb(a b:List Nat):xA (a++b)=xA a++xA b:=List.map_append
def zOu {l:List Tok} {op:Int} {p:Int×Int} {i n k i' n':Nat} {T T':List Test} (hop:2≤op∧op≤6) (h:cmpX l op p i n T=.ok k i' n' T') (hi:i≤l.length) :
  n'=n∧∃u:UT,u.isO∧u.wf (l.map Tok.b)∧T'.map Test.s=(u.g (T.map Test.s)).1∧(u.g (T.map Test.s)).2=[(k:Int)]∧(n≤4→u.nd+n≤4)∧u.tl+2 * wS l i'≤2 * wS l i:=by
 unfold cmpX at h;split at h
 ·rename_i h0;cases h;obtain⟨e,e1,e2,e3,e4,e5⟩:=zGe hi h0;have:=yHF e3 e4;refine⟨rfl,.cmp op e,trivial,⟨hop,e1⟩,?_,by simp [UT.g],fun h=>by simpa [UT.nd] using h,by simp only[UT.tl];omega⟩;rw[List.map_append,UT.g,List.map_cons,vZ,e2];rfl
 cases h
def zOT{l:List Tok}{i:Nat}:∀ {os:List (List Nat×Int)} {op:Int},jF l i os=some op→∃w,(w,op) ∈ os∧isW l i w=true
 |[],op,h=>by simp [jF] at h
 |o::os,op,h=>by
  unfold jF at h;split at h
  ·rename_i hw;cases h;exact⟨o.1,List.mem_cons_self ..,hw⟩
  obtain⟨w,h1,h2⟩:=zOT h;exact⟨w,List.mem_cons_of_mem _ h1,h2⟩
def zYG{w:List Nat}{op:Int}(h:(w,op) ∈ zBD):2≤op∧op≤6:=by
 simp only[zBD,List.mem_cons,List.mem_nil_iff,or_false,Prod.mk.injEq] at h;omega
def zIN{l:List Tok}:∀(f:Nat) (c:UC) (i n:Nat) (T:List Test) (r:RU),UX l f c i n T=some r→i≤l.length→GUt l c i n (T.map Test.s) r
 |0,c,i,n,T,r,h,_=>by simp [UX] at h
 |f+1,.one,i,n,T,r,h,hi=>by
  have ih:=zIN (l:=l) f;rw[UX] at h;split at h
  ·rename_i ha;cases h;have hw:isW l i [45]=true:=by unfold anyX at ha;simp only[Bool.and_eq_true] at ha;exact ha.1
   have:=zAi hw;refine⟨rfl,.any,trivial,trivial,?_,by simp [UT.g],fun h=>by simpa [UT.nd] using h,by simp only[UT.tl];omega⟩;rw[List.map_append,UT.g,List.map_cons,vZ];rfl
  split at h
  ·rename_i hx;have hw:isW l i [110,111,116]=true∧isW l (i+1) [40]=true:=by unfold notX at hx;simpa only [Bool.and_eq_true] using hx
   have w1:=zAi hw.1;have w2:9+wS l (i+2)≤wS l (i+1):=zAi hw.2;have hlt:=yA hw.2;split at h
   ·cases h;trivial
   rename_i h4;cases hh:UX l f .tests (i+2) (n+1) T with
   |none=>rw[hh] at h;cases h
   |some r' =>
    rw[hh] at h;have hg:=ih _ _ _ _ _ hh (by omega);cases r' with
    |oks ks j m T1=>exact absurd (yH _ _ _ _ _ _ hh (by omega)).1 id
    |pan e j=>cases h;trivial
    |ok k j m T1 =>
     dsimp only at h;split at h
     ·rename_i h41;cases h;have w3:=zAi h41;obtain⟨rfl,u,u1,u2,u3,u4,u5,u6⟩:=hg;refine⟨by omega,.not u,trivial,⟨u1,u2⟩,?_,?_,?_,by simp only[UT.tl];omega⟩
      ·rw[List.map_append,u3,UT.g,List.map_cons,vZ,u4];rfl
      ·rw[UT.g,← u3,List.length_map]
      intro h;simp only[UT.nd];have:=u5 (by omega);omega
     cases h;trivial
  split at h
  ·rename_i hr;cases h;unfold xQ at hr;simp only[Bool.and_eq_true,Bool.or_eq_true,beq_iff_eq] at hr;obtain⟨hr0,hr1,hr2⟩:=hr;have hw0:i<l.length∧9+wS l (i+1)≤wS l i:=by
    rcases hr0 with h|h<;>exact⟨yA h,zAi h⟩
   obtain⟨a,a1,a2,a3,a4,a5⟩:=zGe (i:=i+1) (by omega) hr1;have w2:=zAi hr2;have hlt2:=yA hr2;unfold rngX;split
   ·rename_i hb;obtain⟨b,b1,b2,b3,b4,b5⟩:=zGe (by omega) hb;split
    ·rename_i hq;have w3:9+wS l ((zH l ((zH l (i+1)).2.1+1)).2.1+1)≤wS l (zH l ((zH l (i+1)).2.1+1)).2.1:=by
      rw[Bool.or_eq_true] at hq;rcases hq with h|h<;>exact zAi h
     refine⟨rfl,.rng (isW l i [40]) (isW l (zH l ((zH l (i+1)).2.1+1)).2.1 [41]) a b,trivial,⟨a1,b1⟩,?_,by simp [UT.g],fun h=>by simpa [UT.nd] using h,by simp only[UT.tl];omega⟩;rw[List.map_append,UT.g,List.map_cons,vZ,a2,b2];rfl
    trivial
   trivial
  split at h
  ·rename_i op hs;cases h;obtain⟨w,hw,hw2⟩:=zOT hs;have:=zAi hw2;have hlt:=yA hw2;cases hc:cmpX l op (plW l i) (i+1) n T with
   |oks ks j m T1=>unfold cmpX at hc;split at hc<;>cases hc
   |pan e j=>trivial
   |ok k j m T1 =>
    obtain⟨h1,u,h2,h3,h4,h5,h6,h7⟩:=zOu (zYG hw) hc (by omega);exact⟨h1,u,h2,h3,h4,h5,h6,by omega⟩
  cases h;cases hc:cmpX l 2 (plW l i) i n T with
  |oks ks j m T1=>unfold cmpX at hc;split at hc<;>cases hc
  |pan e j=>trivial
  |ok k j m T1=>exact zOu (by decide) hc hi
 |f+1,.list ks,i,n,T,r,h,hi=>by
  have ih:=zIN (l:=l) f;rw[UX] at h;split at h
  ·rename_i hc;rw[Bool.and_eq_true] at hc;have hlt:=yA hc.1;have w0:=zAi hc.1;cases hh:UX l f .one (i+1) n T with
   |none=>rw[hh] at h;cases h
   |some r' =>
    rw[hh] at h;have hg:=ih _ _ _ _ _ hh (by omega);have hk:=yH _ _ _ _ _ _ hh (by omega);cases r' with
    |oks ks j m T1=>exact absurd hk.1 id
    |pan e j=>cases h;trivial
    |ok k j m T1 =>
     dsimp only at h;obtain⟨_,k1,k2,k3,_⟩:=hk;obtain⟨rfl,u,u1,u2,u3,u4,u5,u6⟩:=hg;have hg2:=ih _ _ _ _ _ h k2;have hk2:=yH _ _ _ _ _ _ h k2;cases r with
     |ok k' j' m' T'=>exact absurd hk2.1 id
     |pan e j'=>trivial
     |oks K j' m' T' =>
      obtain⟨g1,g2⟩:=hg2;refine⟨g1,.inr ?_⟩;rcases g2 with ⟨g2,g3,g4⟩|⟨us,g2,g3,g4,g5,g6,g7,g8⟩
      ·refine⟨.one u,Nat.one_pos,⟨u1,u2⟩,by rw[g3,u3];rfl,?_,?_,u5,by simp only[UT.tl];omega⟩
       ·rw[g2];show xA (ks++[k])=xA ks++(u.g _).2;rw[zNb,u4];rfl
       rw[g2];show (ks++[k]).length=ks.length+1;simp
      refine⟨.cons u us,Nat.succ_pos _,⟨⟨u1,u2⟩,g2,g3⟩,by rw[g4,u3];rfl,?_,?_,?_,by simp only[UT.tl];omega⟩
      ·rw[g5,u3];show xA (ks++[k])++_=xA ks++((u.g _).2++_);rw[zNb,u4,List.append_assoc];rfl
      ·rw[g6];show (ks++[k]).length+us.num=ks.length+(us.num+1);simp;omega
      intro h;have:=u5 h;have:=g7 h;simp only[UT.nd];omega
  cases h;exact⟨rfl,.inl ⟨rfl,rfl,Nat.le_refl _⟩⟩
 |f+1,.tests,i,n,T,r,h,hi=>by
  have ih:=zIN (l:=l) f;rw[UX] at h;cases hh:UX l f .one i n T with
  |none=>rw[hh] at h;cases h
  |some r' =>
   rw[hh] at h;have hg:=ih _ _ _ _ _ hh hi;have hk:=yH _ _ _ _ _ _ hh hi;cases r' with
   |oks ks j m T1=>exact absurd hk.1 id
   |pan e j=>cases h;trivial
   |ok k j m T1 =>
    dsimp only at h;obtain⟨_,k1,k2,k3,_⟩:=hk;obtain⟨rfl,u,u1,u2,u3,u4,u5,u6⟩:=hg;cases h2:UX l f (.list [k]) j m T1 with
    |none=>rw[h2] at h;cases h
    |some r2 =>
     rw[h2] at h;have hg2:=ih _ _ _ _ _ h2 k2;have hk2:=yH _ _ _ _ _ _ h2 k2;cases r2 with
     |ok k' j' m' T'=>exact absurd hk2.1 id
     |pan e j'=>cases h;trivial
     |oks K j' m' T' =>
      obtain⟨g1,g2⟩:=hg2;rcases g2 with ⟨g2,g3,g4⟩|⟨us,g2,g3,g4,g5,g6,g7,g8⟩
      ·have g2':K=[k]:=g2;subst g2';dsimp only at h;cases h;exact⟨g1,u,u1.t,u2,by rw[g3,u3],u4,u5,by omega⟩
      have h2l:K.length=us.num+1:=by rw[g6];show 1+us.num=_;omega
      match K,h2l,h with
      |[],h2l,_=>simp at h2l
      |[a],h2l,_=>simp at h2l;omega
      |a::b::K,h2l,h =>
       dsimp only at h;cases h;refine⟨g1,.list (.cons u us),trivial,⟨by simp only[UT.num];omega,⟨u1,u2⟩,g2,g3⟩,?_,?_,?_,by simp only[UT.tl];omega⟩
       ·rw[List.map_append,g4,u3,List.map_cons,vZ,g5]
        show _=(us.g (u.g _).1).1++[⟨9,[],[],false,false,(u.g _).2++(us.g (u.g _).1).2⟩]
        rw[u4,u3];rfl
       ·show [(((us.g (u.g _).1).1.length:Nat):Int)]=_
        rw[← u3,← g4,List.length_map]
       intro h;have:=u5 h;have:=g7 h;simp only[UT.nd];omega
def zIM:Int→List Nat
 |2=>[61]|3=>[60]|4=>[60,61]|5=>[62]|6=>[62,61]|_=>[]
def lowB(b:Bool):BT:=sgB (if b then [40] else [91])
def zRw(b:Bool):BT:=sgB (if b then [41] else [93])
def eqS(e:ET):STst:=⟨2,e.ns,[],false,false,[]⟩
def Alone(e:ET):Prop:=∃(l:List Tok) (f k n:Nat) (T:List Test),l.map Tok.b=e.ws∧UX l f .tests 0 0 []=some (.ok k l.length n T)∧T.map Test.s=[eqS e]
inductive UWs:UT→List BT→Prop where
 |any:UWs .any [sgB [45]]
 |cmp (op:Int) (e:ET):UWs (.cmp op e) (sgB (zIM op)::e.ws)
 |eqa (e:ET) (h:Alone e):UWs (.cmp 2 e) e.ws
 |rng (lo hi:Bool) (a b:ET):UWs (.rng lo hi a b) (lowB lo::(a.ws++sgB [46,46]::(b.ws++[zRw hi])))
 |not {t:UT} {w:List BT} (h:UWs t w):UWs (.not t) (nmB [110,111,116]::sgB [40]::(w++[sgB [41]]))
 |list {ks:UT} {w:List BT} (h:UWs ks w):UWs (.list ks) w
 |one {t:UT} {w:List BT} (h:UWs t w):UWs (.one t) w
 |cons {t ks:UT} {w w':List BT} (h:UWs t w) (h':UWs ks w'):UWs (.cons t ks) (w++sgB [44]::w')
def NC(w:List BT):Prop:=∀b ∈ w,((b.1==1||b.1==7)&&b.2.1==[58])=false
theorem NC.app{a b:List BT}(h1:NC a)(h2:NC b):NC (a++b):=fun x hx=>(List.mem_append.1 hx).elim (h1 x) (h2 x)
theorem NC.cons{a:BT}{b:List BT}(h1:((a.1==1||a.1==7)&&a.2.1==[58])=false)(h2:NC b):NC (a::b):=fun x hx=>by
 rcases List.mem_cons.1 hx with rfl|hx
 ·exact h1
 exact h2 x hx
theorem NC.nil:NC []:=fun x hx=>by cases hx
theorem NC.par{w:List BT}(h:NC w)(m n:Nat):NC (parB m n w):=by
 unfold parB;split
 ·exact NC.cons rfl (h.app (NC.cons rfl NC.nil))
 exact h
theorem NC.op{n:Nat}{o:Int}{w:List Nat}(h:(w,o) ∈ opsX n):(((opBT n o).1==1||(opBT n o).1==7)&&(opBT n o).2.1==[58])=false:=by
 rcases n with _|_|_|_|_|_|n<;>simp only[opsX,List.mem_cons,List.mem_nil_iff,or_false,Prod.mk.injEq] at h
 ·obtain⟨_,rfl⟩:=h;rfl
 ·obtain⟨_,rfl⟩:=h;rfl
 ·rcases h with ⟨_,rfl⟩|⟨_,rfl⟩|⟨_,rfl⟩|⟨_,rfl⟩|⟨_,rfl⟩|⟨_,rfl⟩<;>rfl
 ·rcases h with ⟨_,rfl⟩|⟨_,rfl⟩<;>rfl
 rcases h with ⟨_,rfl⟩|⟨_,rfl⟩<;>rfl
theorem ET.nc{L:List BT}:∀e:ET,e.wf L→NC e.ws∧e.ws≠[]
 |.lit b,hw=>⟨NC.cons (by obtain⟨_,hb⟩:=hw;rcases hb with hb|hb|hb<;>simp [hb]) NC.nil,by simp [ET.ws]⟩
 |.word w v,hw=>by
  refine⟨NC.cons ?_ NC.nil,by simp [ET.ws]⟩;have:w≠[58]:=by rintro rfl;exact absurd hw.2 (by simp [zB8,wV])
  simp [nmB,this]
 |.var b,hw=>⟨NC.cons (by obtain⟨_,hb⟩:=hw;simp [hb]) NC.nil,by simp [ET.ws]⟩
 |.self,_=>⟨NC.cons rfl NC.nil,by simp [ET.ws]⟩
 |.un n e,hw=>by
  obtain⟨hn,_,he⟩:=hw;refine⟨NC.cons ?_ ((ET.nc e he).1.par _ _),by simp [ET.ws]⟩;rcases hn with rfl|rfl<;>rfl
 |.bin n o x y,hw=>by
  obtain⟨_,⟨w,hw⟩,⟨_,hx⟩,_,hy⟩:=hw;exact⟨((ET.nc x hx).1.par _ _).app (NC.cons (NC.op hw) ((ET.nc y hy).1.par _ _)),by simp [ET.ws]⟩
 |.call w op ks,hw=>by
  obtain⟨⟨_,_,hc,_⟩,_,hk⟩:=hw;have:w≠[58]:=by rintro rfl;exact absurd hc (by simp [jZ,wV])
  exact⟨NC.cons (by simp [nmB,this]) (NC.cons rfl ((ET.nc ks hk).1.app (NC.cons rfl NC.nil))),by simp [ET.ws]⟩
 |.one e,hw=>ET.nc e hw.2
 |.cons e ks,hw=>⟨(ET.nc e hw.1.2).1.app (NC.cons rfl (ET.nc ks hw.2.2).1),by simp [ET.ws]⟩
theorem UWs.nc{L:List BT}{u:UT}{w:List BT}(h:UWs u w):u.wf L→NC w∧w≠[]:=by
 induction h with
 |any=>exact fun _=>⟨NC.cons rfl NC.nil,by simp⟩
 |cmp op e =>
  intro hw;obtain⟨⟨h1,h2⟩,h3⟩:=hw;refine⟨NC.cons ?_ (ET.nc e h3.wf).1,by simp⟩;rcases(by omega:op=2∨op=3∨op=4∨op=5∨op=6) with rfl|rfl|rfl|rfl|rfl<;>rfl
 |eqa e h=>exact fun hw=>ET.nc e hw.2.wf
 |rng lo hi a b =>
  intro hw;refine⟨NC.cons (by cases lo<;>rfl) ((ET.nc a hw.1.wf).1.app (NC.cons rfl ((ET.nc b hw.2.wf).1.app (NC.cons (by cases hi<;>rfl) NC.nil)))),by simp⟩
 |not h ih=>exact fun hw=>⟨NC.cons rfl (NC.cons rfl ((ih hw.2).1.app (NC.cons rfl NC.nil))),by simp⟩
 |list h ih=>exact fun hw=>ih hw.2
 |one h ih=>exact fun hw=>ih hw.2
 |cons h h' ih ih'=>exact fun hw=>⟨(ih hw.1.2).1.app (NC.cons rfl (ih' hw.2.2).1),by simp⟩
def EndB(r:List BT):Prop:=r=[]∨∃b r',r=b::r'∧b.1=7∧(b.2.1=[44]∨b.2.1=[41])
theorem EndB.isB{r:List BT}(h:EndB r){w:List Nat}(h1:w≠[44])(h2:w≠[41]):isB r w=false:=by
 rcases h with rfl|⟨b,r',rfl,h3,h4⟩
 ·rfl
 have:b.2.1≠w:=by
  rcases h4 with h4|h4<;>rw[h4]<;>intro h
  ·exact h1 h.symm
  exact h2 h.symm
 simp [Go.Ab.isB,this]
def zSs{k:Nat}{o:List Nat×Int}(h:o ∈ opsX k):o.1≠[44]∧o.1≠[41]∧o.1≠[46,46]∧o.1≠[93]:=by
 rcases k with _|_|_|_|_|_|m<;>simp only[opsX,List.mem_cons,List.mem_nil_iff,or_false] at h
 ·subst h;decide
 ·subst h;decide
 ·rcases h with rfl|rfl|rfl|rfl|rfl|rfl<;>decide
 ·rcases h with rfl|rfl<;>decide
 rcases h with rfl|rfl<;>decide
theorem EndB.noop{r:List BT}(h:EndB r):∀k,0≤k→∀o ∈ opsX k,Go.Ab.isB r o.1=false:=fun k _ o ho=>h.isB (zSs ho).1 (zSs ho).2.1
def zQ7{w:List Nat}{r:List BT}(h:w=[46,46]∨w=[41]∨w=[93]):∀k,0≤k→∀o ∈ opsX k,isB (sgB w::r) o.1=false:=fun k _ o ho=>by
 have:=zSs ho;have hne:w≠o.1:=by rcases h with rfl|rfl|rfl<;>intro h<;>simp [← h] at this
 simp [isB,sgB,hne]
def zJU {l:List Tok} {L:List BT} {i:Nat} {e:ET} {r:List BT} (he:EOK L e) (h:(l.map Tok.b).drop i=e.ws++r) (hr:∀k,0≤k→∀o ∈ opsX k,isB r o.1=false) (hi:i≤l.length) :
  ∃T,zH l i=(T,i+e.ws.length,0)∧T.map Node.s=e.ns:=by
 have hwk:e.wk 0=e.ws:=by unfold ET.wk parB;rw[if_neg (by omega)]
 have hdk:e.dk 0=e.dp:=ET.dk_high (by omega);obtain⟨a,T,q1,q2,f,q3⟩:=((ET.reads e).1 he.isE).1 0 (by omega) l L i 0 [] r (by rw[hwk];exact h) he.wf he.isE (by have:=he.deep;omega) hr;have hlen:T.length=e.ns.length:=by have:=congrArg List.length q1;simpa [ET.ns] using this
 rw[hwk] at q3;exact⟨T,zH1 hi q3 (by have:=he.few;omega),q1⟩
def EU(l:List Tok)(c:UC)(i n:Nat)(T:List Test)(r:RU):Prop:=∃f,UX l f c i n T=some r
def zAh{l:List Tok}{i:Nat}{b:BT}{r:List BT}(h:(l.map Tok.b).drop i=b::r)(w:List Nat):isW l i w=((b.1==1||b.1==7)&&b.2.1==w):=by rw[kF,h];rfl
def yG9{l:List Tok}{f i k i' n':Nat}{T T':List Test}{x:STst}(h:UX l f .one i 0 T=some (.ok k i' n' T'))(hT:T'.map Test.s=T.map Test.s++[x])(hx:x.op=2)(n:Nat):UX l f .one i n T=some (.ok k i' n T'):=by
 cases f with
 |zero=>simp [UX] at h
 |succ f =>
  have last:∀ {A:List Test} {y:Test},(A++[y]).map Test.s=T.map Test.s++[x]→y.s=x:=by
   intro A y h;rw[List.map_append] at h;have:=congrArg List.getLast? h
   simpa using this
  rw[UX] at h ⊢;split at h
  ·cases h;have:=last hT;rw[vZ] at this;rw[← this] at hx;cases hx
  rename_i h1;rw[if_neg h1];split at h
  ·rw[if_neg (by decide)] at h;cases hh:UX l f .tests (i+2) (0+1) T with
   |none=>rw[hh] at h;cases h
   |some r =>
    rw[hh] at h;cases r with
    |pan e j=>cases h
    |oks ks j m T1=>cases h
    |ok k' j m T1 =>
     dsimp only at h;split at h
     ·cases h;have:=last hT;rw[vZ] at this;rw[← this] at hx;cases hx
     cases h
  rename_i h2;rw[if_neg h2];split at h
  ·unfold rngX at h;split at h
   ·split at h
    ·cases h;have:=last hT;rw[vZ] at this;rw[← this] at hx;cases hx
    cases h
   cases h
  rename_i h3;rw[if_neg h3];have key:∀op p j,some (cmpX l op p j 0 T)=some (.ok k i' n' T')→some (cmpX l op p j n T)=some (.ok k i' n T'):=by
   intro op p j h;unfold cmpX at h ⊢;split at h
   ·rename_i h0;rw[if_pos h0];cases h;rfl
   cases h
  split at h<;>exact key _ _ _ h
theorem Alone.one{e:ET}(h:Alone e):∃(l:List Tok) (f:Nat) (T:List Test),l.map Tok.b=e.ws∧UX l f .one 0 0 []=some (.ok 0 l.length 0 T)∧T.map Test.s=[eqS e]:=by
 obtain⟨l,f,k,n,T,h1,h2,h3⟩:=h;cases f with
 |zero=>simp [UX] at h2
 |succ f =>
  rw[UX] at h2;cases hh:UX l f .one 0 0 [] with
  |none=>rw[hh] at h2;cases h2
  |some r =>
   rw[hh] at h2;have hk:=yH _ _ _ _ _ _ hh (Nat.zero_le _);cases r with
   |pan e j=>cases h2
   |oks ks j m T1=>exact absurd hk.1 id
   |ok a j m T1 =>
    obtain⟨_,k1,k2,k3,k4,k5,k6⟩:=hk;dsimp only at h2;cases hl:UX l f (.list [a]) j m T1 with
    |none=>rw[hl] at h2;cases h2
    |some r2 =>
     rw[hl] at h2;have hk2:=yH _ _ _ _ _ _ hl k2;have ht2:=zIN _ _ _ _ _ _ hl k2;have hs:=fun K i1 n1 T'=>zFZ (l:=l) (f:=f) (ks:=[a]) (K:=K) (i:=j) (n:=m) (i1:=i1) (n1:=n1) (T:=T1) (T1:=T')
     cases r2 with
     |pan e j=>cases h2
     |ok k' j' m' T'=>exact absurd hk2.1 id
     |oks K j' m' T' =>
      have hT1:0<T1.length:=by omega
      obtain⟨g1,g2⟩:=ht2;rcases g2 with ⟨g2,g3,g4⟩|⟨us,g2,g3,g4,g5,g6,g7,g8⟩
      ·have g2':K=[a]:=g2;subst g2';dsimp only at h2;cases h2
       -- the list went on nowhere
       have hj:j=l.length:=by
        cases f with
        |zero=>simp [UX] at hl
        |succ f =>
         rw[UX] at hl;split at hl
         ·cases hh2:UX l f .one (j+1) m T1 with
          |none=>rw[hh2] at hl;cases hl
          |some r3 =>
           rw[hh2] at hl;cases r3 with
           |pan e j=>cases hl
           |oks ks j m T1=>exact absurd (yH _ _ _ _ _ _ hh2 (yA (by rename_i hc;rw[Bool.and_eq_true] at hc;exact hc.1))).1 id
           |ok a' j' m' T3 =>
            dsimp only at hl;have hk4:=yH _ _ _ _ _ _ hh2 (yA (by rename_i hc;rw[Bool.and_eq_true] at hc;exact hc.1));have hk5:=yH _ _ _ _ _ _ hl hk4.2.2.1;obtain⟨_,_,_,_,_,_,M,hM,_⟩:=hk5;have:=congrArg List.length hM;simp [UC.kl] at this
         cases hl;rfl
       subst hj;have hlen:T1.length=1:=by
        have:=congrArg List.length (g3.symm.trans h3);simpa using this
       refine⟨l,f,T1,h1,?_,by rw[← g3];exact h3⟩;rw[hh];obtain rfl:k=0:=by omega
       subst k3;rfl
      exfalso;have h2l:K.length=us.num+1:=by rw[g6];show 1+us.num=_;omega
      match K,h2l,h2 with
      |[],h2l,_=>simp at h2l
      |[a],h2l,_=>simp at h2l;omega
      |a::b::K,h2l,h2 =>
       dsimp only at h2;cases h2;have:=congrArg List.getLast? h3;simp [vZ,eqS] at this
end Go.Ab
