/- Lemmas. -/
import Derived.Test.YtdbfacakphncfaaGreatDoorG17
set_option maxRecDepth 1000000
set_option maxHeartbeats 40000000
set_option linter.all false
namespace Go.Ab
open Go.Proofs
attribute [local irreducible] W RW RR
def zMH(l:List Val)(nl cl:Bool)(hl:l.length<9223372036854775808)(hr:∀v ∈ l,VOK v):∃x:Val,Om CC 42 [.t (.sl nl cl (l.map Val.c))] []=some (.val (.t (.agg [.int .u8 x.k,.int .i64 x.n,.str x.s])),[])∧VOK x:=by
 refine zJ yGA rfl ?_
 (have F_:=c5 zF zG zP zE (c5 zC zB xW yHw (c3 zEa @qD @zAW));show W CC 0 25 (zA 42) _ ⟨[(0,_)],[]⟩ _)
 (refine gA ?_)
 refine yE (α:=Nat×Val) (fun a=>⟨[(2,.box 0 0),(3,.box 1 0),(7,.t (.sl nl cl (l.map Val.c))),(8,.t (.int .i64 l.length)),(9,.t (.int .i64 a.1))],[.box (Zero.c.map .t),.box (a.2.c.map .t)]⟩)
  (fun a=>l.length - a.1) (fun a=>a.1≤l.length∧VOK a.2) (0,uF true) (by kernel_rfl) ⟨Nat.zero_le _,zCz _⟩ ?_
 rintro⟨i,ht⟩ ⟨hi,ho⟩
 try dsimp only at hi ho
 by_cases hm:i<l.length
 ·have hw:=wI64 i (by omega);have he:l[i]?=some l[i]:=List.getElem?_eq_getElem hm;have hd:decide ((i:Int)<l.length)=true:=by simpa using hm
  have hj:=hr l[i] (List.getElem_mem hm);generalize l[i]=v at he hj;clear hr;simp only[Zero]
  (repeat' first|refine gA ?_|refine gT ?_ ?_<;>intro hv|fail)
  all_goals first
   |((refine aJ ?_);exact⟨⟨_,_,_⟩,⟨rfl,rfl⟩,hj⟩)
   |(refine zD (i+1,⟨_,_,_⟩) (by first|omega|(dsimp only;omega)) ⟨by first|omega|(dsimp only;omega),?_⟩ (by exact aTd);first|exact ho|exact yX)
 have hd:decide ((i:Int)<l.length)=false:=by simpa using hm
 simp only[Zero]
 (refine gA ?_)
 (refine aJ ?_)
 exact⟨⟨_,_,_⟩,⟨rfl,rfl⟩,ho⟩
def yAe(l:List Val)(nl cl:Bool)(hl:l.length<4294967295)(hr:∀v ∈ l,VOK v):∃x:Val,Om CC 44 [.t (.sl nl cl (l.map Val.c))] []=some (.val (.t (.agg [.int .u8 x.k,.int .i64 x.n,.str x.s])),[])∧VOK x:=by
 refine zJ yGD rfl ?_
 (have F_:=c5 zF zG zE zC (c5 zB xW yIU zOk (c2 zJh @zGI));show W CC 0 21 (zA 44) _ ⟨[(0,_)],[]⟩ _)
 (refine gA ?_)
 refine yE (α:=Nat×Bool×List Val) (fun a=>⟨[(2,.box 0 0),(3,match a.2.1 with|true=>.hs 1 0|false=>.t (.sl true true [])),(6,.t (.sl nl cl (l.map Val.c))),(7,.t (.int .i64 l.length)),(8,.t (.int .i64 a.1))],
   match a.2.1 with|true=>[.box (Zero.c.map .t),.arr 3 0 false (a.2.2.map Val.c)]|false=>[.box (Zero.c.map .t)]⟩)
  (fun a=>l.length - a.1) (fun a=>a.1≤l.length∧a.2.2.length=a.1∧(a.2.1=false→a.2.2=[])∧∀v ∈ a.2.2,VOK v) (0,false,[]) (by kernel_rfl) ⟨Nat.zero_le _,rfl,fun _=>rfl,fun v hv=>by cases hv⟩ ?_
 rintro⟨i,st,ht⟩ ⟨hi,ho,hn,hu⟩
 try dsimp only at hi ho hn hu
 have hI:lens 3 (ht.map Val.c)=true:=qM Val.c 3 (fun a=>rfl) ht
 by_cases hm:i<l.length
 ·have hw:=wI64 i (by omega);have he:l[i]?=some l[i]:=List.getElem?_eq_getElem hm;have hd:decide ((i:Int)<l.length)=true:=by simpa using hm
  have hJ:decide (i+1<4294967296)=true:=by simp;omega
  have hA:True:=trivial;generalize l[i]=v at he;cases st with
  |true =>
   simp only[Zero];clear hr hn
   (refine gA ?_)
   refine zD (i+1,true,ht++[NotV v]) (by first|omega|(dsimp only;omega)) ⟨by first|omega|(dsimp only;omega),by simp [ho],fun h=>(by cases h),fun x hx=>?_⟩ (by(have X_:=@mapA;exact aTdX));rcases List.mem_append.1 hx with h|h
   ·exact hu x h
   rw[List.mem_singleton.1 h];exact zGT _
  |false =>
   have h0:=hn rfl;subst h0;simp only[Zero];clear hr hu hn
   (refine gA ?_)
   refine zD (i+1,true,[NotV v]) (by first|omega|(dsimp only;omega)) ⟨by first|omega|(dsimp only;omega),?_,fun h=>(by cases h),fun x hx=>?_⟩ (by(have X_:=@mapA;exact aTdX))
   ·simp at ho ⊢;omega
   rw[List.mem_singleton.1 hx];exact zGT _
 have hd:decide ((i:Int)<l.length)=false:=by simpa using hm
 cases st with
 |true =>
  obtain⟨x,hx,hM⟩:=zMH ht false false (by omega) hu;simp only[Zero];clear hr hu
  (refine gA ?_)
  (refine aJ ?_)
  exact⟨⟨_,_,_⟩,⟨rfl,rfl⟩,zGT _⟩
 |false =>
  obtain⟨x,hx,hM⟩:=zMH [] true true (by simp) (fun v hv=>by cases hv);simp only[List.map_nil] at hx;simp only[Zero];clear hr hu
  (refine gA ?_)
  (refine aJ ?_)
  exact⟨⟨_,_,_⟩,⟨rfl,rfl⟩,zGT _⟩
def zKb(v:Val):∃x:Val×Int,Om CC 250 [.t (.agg [.int .u8 v.k,.int .i64 v.n,.str v.s])] []=some (.val (.tup [.t (.agg [.int .u8 x.1.k,.int .i64 x.1.n,.str x.1.s]),.t (.int .i64 x.2)]),[])∧(R64 v.n→R64 x.1.n):=by
 refine zJ yAl rfl ?_
 (have F_:=c5 zF zE zC zB (c3 zR yBE (c2 yDh @zVz));show W CC 0 22 (zA 250) _ ⟨[(0,_)],[]⟩ _)
 (repeat' first|refine gA ?_|refine gT ?_ ?_<;>intro hv|fail)
 all_goals refine aJ ?_<;>exact⟨(⟨_,_,_⟩,_),⟨rfl,rfl⟩,by first|exact fun _=>wC|exact fun h=>h|exact fun _=>zWJ _⟩
noncomputable def DecV(v:Val):Val×Int:=(zKb v).choose
def yAV(v:Val):Om CC 250 [.t (.agg [.int .u8 v.k,.int .i64 v.n,.str v.s])] []=some (.val (.tup [.t (.agg [.int .u8 (DecV v).1.k,.int .i64 (DecV v).1.n,.str (DecV v).1.s]),.t (.int .i64 (DecV v).2)]),[]):=(zKb v).choose_spec.1
def yGx(v:Val):R64 v.n→R64 (DecV v).1.n:=(zKb v).choose_spec.2
def zN9(l:List Val)(nl cl:Bool)(hl:l.length<4294967295)(hr:∀v ∈ l,R64 v.n):∃x:Bool×Bool×List Val×Bool×Int,Om CC 215 [.t (.sl nl cl (l.map Val.c))] [] =
   some (.val (.tup [.t (.sl x.1 x.2.1 (x.2.2.1.map Val.c)),.t (.bool x.2.2.2.1),.t (.int .i64 x.2.2.2.2)]),[]) ∧
   (x.2.2.2.1=false→x.2.2.2.2=0→x.2.2.1.length=l.length)∧∀v ∈ x.2.2.1,VOK v:=by
 refine zJ yAj rfl ?_
 (have F_:=c5 zF zG zP zE (c5 zC zB zR xW (c5 yFw zVD yEc @zJ9 @yAV));show W CC 0 61 (zA 215) _ ⟨[(0,_)],[]⟩ _)
 (refine gA ?_)
 refine W.mono (Q:=fun e st=>(e=.exit 0∧∃(b:Bool) (k:Int),get st.T 0=.t (.sl nl cl (l.map Val.c))∧get st.T 2=.t (.sl true true [])∧get st.T 3=.t (.bool b)∧get st.T 5=.t (.int .u8 k)∧st.h=[]∧Ab.get st.T 61=.unk) ∨
   (e=.ret∧get st.T 2=.t (.sl true true [])∧get st.T 3=.t (.bool false)∧get st.T 4=.t (.int .i64 8)∧Ab.get st.T 61=.unk)) ?_ ?_
 ·refine yE (α:=Nat×Bool×Int) (fun a=>⟨[(0,.t (.sl nl cl (l.map Val.c))),(2,.t (.sl true true [])),(3,.t (.bool a.2.1)),(5,.t (.int .u8 a.2.2)),(10,.t (.sl nl cl (l.map Val.c))),(11,.t (.int .i64 l.length)),(12,.t (.int .i64 a.1))],[]⟩)
   (fun a=>l.length - a.1) (fun a=>a.1≤l.length) (0,false,1) (by kernel_rfl) (Nat.zero_le _) ?_
  rintro⟨i,b,k⟩ hi
  try dsimp only at hi
  by_cases hm:i<l.length
  ·have hw:=wI64 i (by omega);have he:l[i]?=some l[i]:=List.getElem?_eq_getElem hm;have hd:decide ((i:Int)<l.length)=true:=by simpa using hm
   have hj:=hr l[i] (List.getElem_mem hm);generalize l[i]=v at he hj;clear hr
   (repeat' first|refine gA ?_|refine gT ?_ ?_<;>intro hv|fail)
   all_goals first
    |exact .inr ⟨rfl,rfl,rfl,rfl,rfl⟩
    |(refine zD (i+1,_,_) (by first|omega|(dsimp only;omega)) (by first|omega|(dsimp only;omega)) (by exact aTd))
  have hd:decide ((i:Int)<l.length)=false:=by simpa using hm
  (refine gA ?_)
  exact .inl ⟨rfl,_,_,rfl,rfl,rfl,rfl,rfl,rfl⟩
 rintro e ⟨T,h⟩ hq;rcases hq with ⟨rfl,b,k,g0,g2,g3,g5,gh,gD⟩|⟨rfl,g2,g3,g4,gD⟩
 ·dsimp only at g0 g2 g3 g5 gh gD;subst gh
  (repeat' first|refine gA ?_|refine gT ?_ ?_<;>intro hv|fail)
  ·(refine aJ ?_ (h0:=by(show yK 61 _=some [];simp only[yK,Ab.get,Nat.beq,gD])))
   exact⟨(_,_,[],_,_),⟨rfl,rfl⟩,fun h=>(by cases h),fun v hv=>(by cases hv)⟩
  refine yE (α:=Nat×Bool×List Val) (fun a=>⟨[(2,match a.2.1 with|true=>.hs 0 0|false=>.t (.sl true true [])),(5,.t (.int .u8 k)),(36,.t (.sl nl cl (l.map Val.c))),(37,.t (.int .i64 l.length)),(38,.t (.int .i64 a.1))],
    match a.2.1 with|true=>[.arr 3 0 false (a.2.2.map Val.c)]|false=>[]⟩)
   (fun a=>l.length - a.1) (fun a=>a.1≤l.length∧a.2.2.length=a.1∧(a.2.1=false→a.2.2=[])∧∀v ∈ a.2.2,VOK v) (0,false,[]) (by(have X_:=c5 @g0 @g2 @g3 @g5 @gD;exact aTdX)) ⟨Nat.zero_le _,rfl,fun _=>rfl,fun v hv=>(by cases hv)⟩ ?_
  clear g0 g2 g3 g5 gD;rintro⟨i,st,ht⟩ ⟨hi,ho,hn,hu⟩
  try dsimp only at hi ho hn hu
  have hI:lens 3 (ht.map Val.c)=true:=qM Val.c 3 (fun a=>rfl) ht
  by_cases hm:i<l.length
  ·have hw:=wI64 i (by omega);have he:l[i]?=some l[i]:=List.getElem?_eq_getElem hm;have hd:decide ((i:Int)<l.length)=true:=by simpa using hm
   have hJ:decide (i+1<4294967296)=true:=by simp;omega
   have hj:=hr l[i] (List.getElem_mem hm);generalize l[i]=v at he hj;have hF:=yGx v hj;cases st with
   |true =>
    clear hr hn
    (repeat' first|refine gA ?_|refine gT ?_ ?_<;>intro hv|fail)
    all_goals first
     |((refine aJ ?_);exact⟨(_,_,[],_,_),⟨rfl,rfl⟩,fun _ h0=>(by rw[h0] at hv;cases hv),fun v hv=>(by cases hv)⟩)
     |(refine zD (i+1,true,ht++[⟨_,_,_⟩]) (by first|omega|(dsimp only;omega)) ⟨by first|omega|(dsimp only;omega),by simp [ho],fun h=>(by cases h),fun x hx=>?_⟩ (by(have X_:=@mapA;exact aTdX))
       rcases List.mem_append.1 hx with h|h
       ·exact hu x h
       rw[List.mem_singleton.1 h];first|exact yZ _ hF|exact yZ _ hj)
   |false =>
    have h0:=hn rfl;subst h0;clear hr hu hn;simp at ho;subst ho
    (repeat' first|refine gA ?_|refine gT ?_ ?_<;>intro hv|fail)
    all_goals first
     |((refine aJ ?_);exact⟨(_,_,[],_,_),⟨rfl,rfl⟩,fun _ h0=>(by rw[h0] at hv;cases hv),fun v hv=>(by cases hv)⟩)
     |(refine zD (1,true,[⟨_,_,_⟩]) (by first|omega|(dsimp only;omega)) ⟨by first|omega|(dsimp only;omega),by simp,fun h=>(by cases h),fun x hx=>?_⟩ (by(have X_:=@mapA;exact aTdX))
       rw[List.mem_singleton.1 hx];first|exact yZ _ hF|exact yZ _ hj)
  have hd:decide ((i:Int)<l.length)=false:=by simpa using hm
  cases st with
  |true =>
   (refine gA ?_)
   (refine aJ ?_)
   exact⟨(_,_,ht,_,_),⟨rfl,rfl⟩,fun _ _=>(by dsimp only;omega),hu⟩
  |false =>
   have h0:=hn rfl;subst h0;simp at ho
   (refine gA ?_)
   (refine aJ ?_)
   exact⟨(_,_,[],_,_),⟨rfl,rfl⟩,fun _ _=>(by simp;omega),fun v hv=>(by cases hv)⟩
 dsimp only at g2 g3 g4 gD
 (refine gA ?_)
 (refine aJ ?_ (h0:=by(show yK 61 _=some [];simp only[yK,Ab.get,Nat.beq,gD])))
 exact⟨(_,_,[],_,_),⟨rfl,rfl⟩,fun _ h0=>(by cases h0),fun v hv=>(by cases hv)⟩
def zMU(n e:Int)(nl cl:Bool)(v:Val)(l:List Val)(hn:R64 n):∃x:Val×Int,Om CC 216 [.t (.int .i64 n),.t (.int .i64 e),.box 0 0] [.box [.t (.sl nl cl ([.int .u8 v.k,.int .i64 v.n,.str v.s]::l.map Val.c))]] =
  some (.val (.tup [.t (.agg [.int .u8 x.1.k,.int .i64 x.1.n,.str x.1.s]),.t (.int .i64 x.2)]),[.box [.t (.sl nl cl ([.int .u8 v.k,.int .i64 v.n,.str v.s]::l.map Val.c))]])∧VOK x.1:=by
 refine jJ zZ1 rfl ?_
 (have F_:=c5 zF zE zC zB (c3 zR xW (c2 yCk @uP));show W CC 1 17 (zA 216) _ ⟨[(0,_),(1,_),(2,_)],[_]⟩ _)
 (repeat' first|refine gA ?_|refine gT ?_ ?_<;>intro hv|fail)
 all_goals refine aJ ?_<;>(first|exact⟨(⟨0,0,[]⟩,_),⟨rfl,rfl⟩,yX⟩|exact⟨(⟨v.k,n,[]⟩,0),⟨rfl,rfl⟩,yZ _ hn⟩)
open Classical in
noncomputable def DoS(n e:Int)(nl cl:Bool)(v:Val)(l:List Val):Val×Int:=if hn:R64 n then (zMU n e nl cl v l hn).choose else (Zero,0)
def yDb(n e:Int)(nl cl:Bool)(k m:Int)(s:List Nat)(l:List Val)(hn:R64 n):Om CC 216 [.t (.int .i64 n),.t (.int .i64 e),.box 0 0] [.box [.t (.sl nl cl ([.int .u8 k,.int .i64 m,.str s]::l.map Val.c))]] =
  some (.val (.tup [.t (.agg [.int .u8 (DoS n e nl cl ⟨k,m,s⟩ l).1.k,.int .i64 (DoS n e nl cl ⟨k,m,s⟩ l).1.n,.str (DoS n e nl cl ⟨k,m,s⟩ l).1.s]),.t (.int .i64 (DoS n e nl cl ⟨k,m,s⟩ l).2)]),[.box [.t (.sl nl cl ([.int .u8 k,.int .i64 m,.str s]::l.map Val.c))]]):=by
 unfold DoS;rw[dif_pos hn];exact(zMU n e nl cl ⟨k,m,s⟩ l hn).choose_spec.1
def yId(n e:Int)(nl cl:Bool)(v:Val)(l:List Val):VOK (DoS n e nl cl v l).1:=by
 unfold DoS;split
 ·rename_i h;exact(zMU n e nl cl v l h).choose_spec.2
 exact yX
def zDY{α:Type}(a b:α)(l:List α):idx (a::b::l) 1=some b:=rfl
def zK6 (f g:Nat) (hR:yY Tryz.prog f=true) (hN:∀x,CC.prim f x=none) (hS:yY Tryz.prog g=true) (hO:∀x,CC.prim g x=none) (F G:Int→Int→Int×Int)
  (hf:∀x y,R64 x→R64 y→Om CC f [.t (.int .i64 x),.t (.int .i64 y)] []=some (.val (.tup [.t (.int .i64 (F x y).1),.t (.int .i64 (F x y).2)]),[]))
  (hg:∀x y,R64 x→R64 y→Om CC g [.t (.int .i64 x),.t (.int .i64 y)] []=some (.val (.tup [.t (.int .i64 (G x y).1),.t (.int .i64 (G x y).2)]),[]))
  (hC:∀x y,R64 (F x y).1) (hD:∀x y,R64 (G x y).1) (a b:Val) (ha:R64 a.n) (hb:R64 b.n) :
  ∃x:Val×Int,Om CC 174 [.t (.agg [.int .u8 a.k,.int .i64 a.n,.str a.s]),.t (.agg [.int .u8 b.k,.int .i64 b.n,.str b.s]),.t (.fn f),.t (.fn g)] [] =
   some (.val (.tup [.t (.agg [.int .u8 x.1.k,.int .i64 x.1.n,.str x.1.s]),.t (.int .i64 x.2)]),[])∧VOK x.1:=by
 refine zJ zY5 rfl ?_
 (have F_:=c5 zF zE zC zB (c5 zR xW zI3 yBG (c3 zUt yBM (c2 @uP @zDY)));show W CC 0 54 (zA 174) _ ⟨[(0,_),(1,_),(2,_),(3,_)],[]⟩ _)
 obtain⟨⟨anl,acl,ht,null,e⟩,hz,hk,hj⟩:=zN9 [a,b] false false (by simp) (fun v hv=>by
  rcases List.mem_cons.1 hv with rfl|hv
  ·exact ha
  rw[List.mem_singleton.1 hv];exact hb)
 dsimp only at hz hk hj;simp only[List.map_cons,List.map_nil,Val.c] at hz;clear ha hb;cases null with
 |true =>
  clear hf hg hC hD hk hj
  (refine gA ?_)
  all_goals refine aJ ?_<;>exact⟨(⟨0,0,[]⟩,_),⟨rfl,rfl⟩,yX⟩
 |false =>
  by_cases he:e=0
  ·subst he;have h2:=hk rfl rfl;obtain⟨x,y,rfl⟩:∃x y,ht=[x,y]:=by
    match ht,h2 with
    |[x,y],_=>exact⟨x,y,rfl⟩
   have hx:R64 x.n:=(hj x (by simp)).1;have hy:R64 y.n:=(hj y (by simp)).1;simp only[List.map_cons,List.map_nil,Val.c] at hz;have hU:=hf x.n y.n hx hy;have hV:=hg x.n y.n hx hy;have hA:∀(n e:Int) (nl cl:Bool) (hn:R64 n),Om CC 216 [.t (.int .i64 n),.t (.int .i64 e),.box 0 0] [.box [.t (.sl nl cl [[.int .u8 x.k,.int .i64 x.n,.str x.s],[.int .u8 y.k,.int .i64 y.n,.str y.s]])]]=_:=fun n e nl cl hn=>yDb n e nl cl x.k x.n x.s [y] hn
   have hP:=hA _ (F x.n y.n).2 anl acl (hC x.n y.n);have hQ:=hA _ (G x.n y.n).2 anl acl (hD x.n y.n);simp only[List.map_cons,List.map_nil,Val.c] at hP hQ;clear hf hg hk hj hA hC hD hx hy h2
   (repeat' first|refine gA ?_|refine gT ?_ ?_<;>intro hv|fail)
   all_goals refine aJ ?_<;>exact⟨(⟨_,_,_⟩,_),⟨rfl,rfl⟩,yId _ _ _ _ _ _⟩
  have hE:(e != 0)=true:=by simpa using he
  clear hf hg hC hD hk hj
  (refine gA ?_)
  all_goals refine aJ ?_<;>exact⟨(⟨0,0,[]⟩,_),⟨rfl,rfl⟩,yX⟩
def zKz(a b:Val)(ha:R64 a.n)(hb:R64 b.n):∃x:Val×Int,Om CC 174 [.t (.agg [.int .u8 a.k,.int .i64 a.n,.str a.s]),.t (.agg [.int .u8 b.k,.int .i64 b.n,.str b.s]),.t (.fn 175),.t (.fn 175)] []=some (.val (.tup [.t (.agg [.int .u8 (x).1.k,.int .i64 (x).1.n,.str (x).1.s]),.t (.int .i64 (x).2)]),[])∧VOK x.1 :=
 zK6 _ _ zUB (fun x=>zX _ x (by decide)) zUB (fun x=>zX _ x (by decide)) NAdd NAdd (fun x y _ hy=>zQB x y) (fun x y _ hy=>zQB x y) zTV zTV a b ha hb
open Classical in
noncomputable def zFR(a b:Val):Val×Int:=if h:R64 a.n∧R64 b.n then (zKz a b h.1 h.2).choose else (Zero,0)
def zW8(k n:Int)(s:List Nat)(k' n':Int)(s':List Nat)(h:R64 n)(h':R64 n'):Om CC 174 [.t (.agg [.int .u8 k,.int .i64 n,.str s]),.t (.agg [.int .u8 k',.int .i64 n',.str s']),.t (.fn 175),.t (.fn 175)] []=some (.val (.tup [.t (.agg [.int .u8 (zFR ⟨k,n,s⟩ ⟨k',n',s'⟩).1.k,.int .i64 (zFR ⟨k,n,s⟩ ⟨k',n',s'⟩).1.n,.str (zFR ⟨k,n,s⟩ ⟨k',n',s'⟩).1.s]),.t (.int .i64 (zFR ⟨k,n,s⟩ ⟨k',n',s'⟩).2)]),[]):=by
 unfold zFR;have hh:R64 (⟨k,n,s⟩:Val).n∧R64 (⟨k',n',s'⟩:Val).n:=⟨h,h'⟩
 rw[dif_pos hh];exact(zKz ⟨k,n,s⟩ ⟨k',n',s'⟩ h h').choose_spec.1
def yAk(a b:Val):VOK (zFR a b).1:=by
 unfold zFR;split
 ·rename_i h;exact(zKz a b h.1 h.2).choose_spec.2
 exact yX
def zXl(a b:Val)(ha:R64 a.n)(hb:R64 b.n):∃x:Val×Int,Om CC 129 [.t (.agg [.int .u8 a.k,.int .i64 a.n,.str a.s]),.t (.agg [.int .u8 b.k,.int .i64 b.n,.str b.s])] []=some (.val (.tup [.t (.agg [.int .u8 (x).1.k,.int .i64 (x).1.n,.str (x).1.s]),.t (.int .i64 (x).2)]),[])∧VOK x.1:=by
 refine zJ zZL rfl ?_
 (have F_:=c5 zF zE zC zB (c3 zI3 yD2 (c2 zL2 @zW8));show W CC 0 11 (zA 129) _ ⟨[(0,_),(1,_)],[]⟩ _)
 (refine gA ?_)
 all_goals refine aJ ?_<;>exact⟨zFR a b,⟨rfl,rfl⟩,yAk a b⟩
def zKJ(a b:Val)(ha:R64 a.n)(hb:R64 b.n):∃x:Val×Int,Om CC 174 [.t (.agg [.int .u8 a.k,.int .i64 a.n,.str a.s]),.t (.agg [.int .u8 b.k,.int .i64 b.n,.str b.s]),.t (.fn 176),.t (.fn 176)] []=some (.val (.tup [.t (.agg [.int .u8 (x).1.k,.int .i64 (x).1.n,.str (x).1.s]),.t (.int .i64 (x).2)]),[])∧VOK x.1 :=
 zK6 _ _ zVi (fun x=>zX _ x (by decide)) zVi (fun x=>zX _ x (by decide)) NSub NSub (fun x y _ hy=>zQz x y) (fun x y _ hy=>zQz x y) zSY zSY a b ha hb
open Classical in
noncomputable def zGd(a b:Val):Val×Int:=if h:R64 a.n∧R64 b.n then (zKJ a b h.1 h.2).choose else (Zero,0)
def zWh(k n:Int)(s:List Nat)(k' n':Int)(s':List Nat)(h:R64 n)(h':R64 n'):Om CC 174 [.t (.agg [.int .u8 k,.int .i64 n,.str s]),.t (.agg [.int .u8 k',.int .i64 n',.str s']),.t (.fn 176),.t (.fn 176)] []=some (.val (.tup [.t (.agg [.int .u8 (zGd ⟨k,n,s⟩ ⟨k',n',s'⟩).1.k,.int .i64 (zGd ⟨k,n,s⟩ ⟨k',n',s'⟩).1.n,.str (zGd ⟨k,n,s⟩ ⟨k',n',s'⟩).1.s]),.t (.int .i64 (zGd ⟨k,n,s⟩ ⟨k',n',s'⟩).2)]),[]):=by
 unfold zGd;have hh:R64 (⟨k,n,s⟩:Val).n∧R64 (⟨k',n',s'⟩:Val).n:=⟨h,h'⟩
 rw[dif_pos hh];exact(zKJ ⟨k,n,s⟩ ⟨k',n',s'⟩ h h').choose_spec.1
def yAE(a b:Val):VOK (zGd a b).1:=by
 unfold zGd;split
 ·rename_i h;exact(zKJ a b h.1 h.2).choose_spec.2
 exact yX
def zG3(a b:Val)(ha:R64 a.n)(hb:R64 b.n):∃x:Val×Int,Om CC 130 [.t (.agg [.int .u8 a.k,.int .i64 a.n,.str a.s]),.t (.agg [.int .u8 b.k,.int .i64 b.n,.str b.s])] []=some (.val (.tup [.t (.agg [.int .u8 (x).1.k,.int .i64 (x).1.n,.str (x).1.s]),.t (.int .i64 (x).2)]),[])∧VOK x.1:=by
 refine zJ zZ2 rfl ?_
 (have F_:=c5 zF zE zC zB (c3 zI3 yGV (c2 zL2 @zWh));show W CC 0 11 (zA 130) _ ⟨[(0,_),(1,_)],[]⟩ _)
 (refine gA ?_)
 all_goals refine aJ ?_<;>exact⟨zGd a b,⟨rfl,rfl⟩,yAE a b⟩
open Classical in
noncomputable def VSub(a b:Val):Val×Int:=if h:R64 a.n∧R64 b.n then (zG3 a b h.1 h.2).choose else (Zero,0)
def yBb(k n:Int)(s:List Nat)(k' n':Int)(s':List Nat)(h:R64 n)(h':R64 n'):Om CC 130 [.t (.agg [.int .u8 k,.int .i64 n,.str s]),.t (.agg [.int .u8 k',.int .i64 n',.str s'])] []=some (.val (.tup [.t (.agg [.int .u8 (VSub ⟨k,n,s⟩ ⟨k',n',s'⟩).1.k,.int .i64 (VSub ⟨k,n,s⟩ ⟨k',n',s'⟩).1.n,.str (VSub ⟨k,n,s⟩ ⟨k',n',s'⟩).1.s]),.t (.int .i64 (VSub ⟨k,n,s⟩ ⟨k',n',s'⟩).2)]),[]):=by
 unfold VSub;have hh:R64 (⟨k,n,s⟩:Val).n∧R64 (⟨k',n',s'⟩:Val).n:=⟨h,h'⟩
 rw[dif_pos hh];exact(zG3 ⟨k,n,s⟩ ⟨k',n',s'⟩ h h').choose_spec.1
def yGk(a b:Val):VOK (VSub a b).1:=by
 unfold VSub;split
 ·rename_i h;exact(zG3 a b h.1 h.2).choose_spec.2
 exact yX
def zKC(a b:Val)(ha:R64 a.n)(hb:R64 b.n):∃x:Val×Int,Om CC 174 [.t (.agg [.int .u8 a.k,.int .i64 a.n,.str a.s]),.t (.agg [.int .u8 b.k,.int .i64 b.n,.str b.s]),.t (.fn 177),.t (.fn 178)] []=some (.val (.tup [.t (.agg [.int .u8 (x).1.k,.int .i64 (x).1.n,.str (x).1.s]),.t (.int .i64 (x).2)]),[])∧VOK x.1 :=
 zK6 _ _ zS1 (fun x=>zX _ x (by decide)) yCT (fun x=>zX _ x (by decide)) NMul zJC (fun x y _ hy=>zQo x y) (fun x y _ hy=>zRR x y) zVX zUX a b ha hb
open Classical in
noncomputable def zF9(a b:Val):Val×Int:=if h:R64 a.n∧R64 b.n then (zKC a b h.1 h.2).choose else (Zero,0)
def zWd(k n:Int)(s:List Nat)(k' n':Int)(s':List Nat)(h:R64 n)(h':R64 n'):Om CC 174 [.t (.agg [.int .u8 k,.int .i64 n,.str s]),.t (.agg [.int .u8 k',.int .i64 n',.str s']),.t (.fn 177),.t (.fn 178)] []=some (.val (.tup [.t (.agg [.int .u8 (zF9 ⟨k,n,s⟩ ⟨k',n',s'⟩).1.k,.int .i64 (zF9 ⟨k,n,s⟩ ⟨k',n',s'⟩).1.n,.str (zF9 ⟨k,n,s⟩ ⟨k',n',s'⟩).1.s]),.t (.int .i64 (zF9 ⟨k,n,s⟩ ⟨k',n',s'⟩).2)]),[]):=by
 unfold zF9;have hh:R64 (⟨k,n,s⟩:Val).n∧R64 (⟨k',n',s'⟩:Val).n:=⟨h,h'⟩
 rw[dif_pos hh];exact(zKC ⟨k,n,s⟩ ⟨k',n',s'⟩ h h').choose_spec.1
def zZV(a b:Val):VOK (zF9 a b).1:=by
 unfold zF9;split
 ·rename_i h;exact(zKC a b h.1 h.2).choose_spec.2
 exact yX
def zV9(a b:Val)(ha:R64 a.n)(hb:R64 b.n):∃x:Val×Int,Om CC 131 [.t (.agg [.int .u8 a.k,.int .i64 a.n,.str a.s]),.t (.agg [.int .u8 b.k,.int .i64 b.n,.str b.s])] []=some (.val (.tup [.t (.agg [.int .u8 (x).1.k,.int .i64 (x).1.n,.str (x).1.s]),.t (.int .i64 (x).2)]),[])∧VOK x.1:=by
 refine zJ yA2 rfl ?_
 (have F_:=c5 zF zE zC zB (c3 zI3 yED (c2 zL2 @zWd));show W CC 0 11 (zA 131) _ ⟨[(0,_),(1,_)],[]⟩ _)
 (refine gA ?_)
 all_goals refine aJ ?_<;>exact⟨zF9 a b,⟨rfl,rfl⟩,zZV a b⟩
def zKQ(a b:Val)(ha:R64 a.n)(hb:R64 b.n):∃x:Val×Int,Om CC 174 [.t (.agg [.int .u8 a.k,.int .i64 a.n,.str a.s]),.t (.agg [.int .u8 b.k,.int .i64 b.n,.str b.s]),.t (.fn 179),.t (.fn 180)] []=some (.val (.tup [.t (.agg [.int .u8 (x).1.k,.int .i64 (x).1.n,.str (x).1.s]),.t (.int .i64 (x).2)]),[])∧VOK x.1 :=
 zK6 _ _ yBV (fun x=>zX _ x (by decide)) yGb (fun x=>zX _ x (by decide)) NQuo zJv (fun x y _ hy=>zZ6 x y hy) (fun x y _ hy=>zSg x y) yHd zUP a b ha hb
open Classical in
noncomputable def zFY(a b:Val):Val×Int:=if h:R64 a.n∧R64 b.n then (zKQ a b h.1 h.2).choose else (Zero,0)
def zXC(k n:Int)(s:List Nat)(k' n':Int)(s':List Nat)(h:R64 n)(h':R64 n'):Om CC 174 [.t (.agg [.int .u8 k,.int .i64 n,.str s]),.t (.agg [.int .u8 k',.int .i64 n',.str s']),.t (.fn 179),.t (.fn 180)] []=some (.val (.tup [.t (.agg [.int .u8 (zFY ⟨k,n,s⟩ ⟨k',n',s'⟩).1.k,.int .i64 (zFY ⟨k,n,s⟩ ⟨k',n',s'⟩).1.n,.str (zFY ⟨k,n,s⟩ ⟨k',n',s'⟩).1.s]),.t (.int .i64 (zFY ⟨k,n,s⟩ ⟨k',n',s'⟩).2)]),[]):=by
 unfold zFY;have hh:R64 (⟨k,n,s⟩:Val).n∧R64 (⟨k',n',s'⟩:Val).n:=⟨h,h'⟩
 rw[dif_pos hh];exact(zKQ ⟨k,n,s⟩ ⟨k',n',s'⟩ h h').choose_spec.1
def yAG(a b:Val):VOK (zFY a b).1:=by
 unfold zFY;split
 ·rename_i h;exact(zKQ a b h.1 h.2).choose_spec.2
 exact yX
def zWg(a b:Val)(ha:R64 a.n)(hb:R64 b.n):∃x:Val×Int,Om CC 132 [.t (.agg [.int .u8 a.k,.int .i64 a.n,.str a.s]),.t (.agg [.int .u8 b.k,.int .i64 b.n,.str b.s])] []=some (.val (.tup [.t (.agg [.int .u8 (x).1.k,.int .i64 (x).1.n,.str (x).1.s]),.t (.int .i64 (x).2)]),[])∧VOK x.1:=by
 refine zJ yAa rfl ?_
 (have F_:=c5 zF zE zC zB (c3 zI3 yFd (c2 zL2 @zXC));show W CC 0 11 (zA 132) _ ⟨[(0,_),(1,_)],[]⟩ _)
 (refine gA ?_)
 all_goals refine aJ ?_<;>exact⟨zFY a b,⟨rfl,rfl⟩,yAG a b⟩
def zKP(a:Val)(ha:R64 a.n):∃x:Val×Int,Om CC 136 [.t (.agg [.int .u8 a.k,.int .i64 a.n,.str a.s])] []=some (.val (.tup [.t (.agg [.int .u8 (x).1.k,.int .i64 (x).1.n,.str (x).1.s]),.t (.int .i64 (x).2)]),[])∧VOK x.1:=by
 refine zJ yA6 rfl ?_
 (have F_:=c5 zF zE zC zB (c3 yEn zUz (c2 @yBb @wC));show W CC 0 13 (zA 136) _ ⟨[(0,_)],[]⟩ _)
 (refine gA ?_)
 all_goals refine aJ ?_<;>exact⟨VSub ⟨_,_,_⟩ a,⟨rfl,rfl⟩,yGk _ a⟩
open Classical in
noncomputable def VNeg(a:Val):Val×Int:=if h:R64 a.n then (zKP a h).choose else (Zero,0)
def zQy(k n:Int)(s:List Nat)(h:R64 n):Om CC 136 [.t (.agg [.int .u8 k,.int .i64 n,.str s])] []=some (.val (.tup [.t (.agg [.int .u8 (VNeg ⟨k,n,s⟩).1.k,.int .i64 (VNeg ⟨k,n,s⟩).1.n,.str (VNeg ⟨k,n,s⟩).1.s]),.t (.int .i64 (VNeg ⟨k,n,s⟩).2)]),[]):=by
 unfold VNeg;have hh:R64 (⟨k,n,s⟩:Val).n:=h;rw[dif_pos hh];exact(zKP ⟨k,n,s⟩ h).choose_spec.1
def zTL(a:Val):VOK (VNeg a).1:=by
 unfold VNeg;split
 ·rename_i h;exact(zKP a h).choose_spec.2
 exact yX
def zNo(c:Int)(l:List Val)(nl cl:Bool)(hl:l.length<4294967295)(hr:∀v ∈ l,R64 v.n):∃x:Val×Int,Om CC 181 [.t (.int .i64 c),.t (.sl nl cl (l.map Val.c))] []=some (.val (.tup [.t (.agg [.int .u8 (x).1.k,.int .i64 (x).1.n,.str (x).1.s]),.t (.int .i64 (x).2)]),[])∧VOK x.1:=by
 refine zJ yAp rfl ?_
 (have F_:=c5 zF zG zE zC (c5 zB zR xW yDc (c3 zUt zTo (c2 @uP @zN1)));show W CC 0 49 (zA 181) _ ⟨[(0,_),(1,_)],[]⟩ _)
 obtain⟨⟨anl,acl,ht,null,e⟩,hz,hk,hj⟩:=zN9 l nl cl hl hr;dsimp only at hz hk hj;clear hr;cases null with
 |true =>
  clear hk hj
  (refine gA ?_)
  all_goals refine aJ ?_<;>exact⟨(⟨0,0,[]⟩,_),⟨rfl,rfl⟩,yX⟩
 |false =>
  by_cases he:e=0
  ·subst he;have h2:=hk rfl rfl;clear hk;cases ht with
   |nil =>
    simp only[List.map_nil] at hz;clear hj h2
    (repeat' first|refine gA ?_|refine gT ?_ ?_<;>intro hv<;>try cases hv;done|fail)
    all_goals refine aJ ?_<;>exact⟨(⟨0,0,[]⟩,_),⟨rfl,rfl⟩,yX⟩
   |cons v0 hc =>
    have hW:hc.length+1<4294967295:=by simp at h2;omega
    have hE:(((hc.length+1:Nat):Int)==0)=false:=by simp;omega
    have h0:=hj v0 (by simp);clear h2;simp only[List.map_cons] at hz
    (refine gA ?_)
    refine yE (α:=Nat×Val) (fun a=>⟨[(0,.t (.int .i64 c)),(4,.box 0 0),(9,.box 1 0),(33,.t (.sl anl acl ((v0::hc).map Val.c))),(34,.t (.int .i64 (hc.length+1:Nat))),(35,.t (.int .i64 a.1))],[.box (Zero.c.map .t),.box (a.2.c.map .t)]⟩)
     (fun a=>hc.length+1 - a.1) (fun a=>a.1≤hc.length+1∧VOK a.2) (0,v0) (by kernel_rfl) ⟨Nat.zero_le _,h0⟩ ?_
    clear hz hE h0;rintro⟨i,o⟩ ⟨hi,ho⟩
    try dsimp only at hi ho
    by_cases hm:i<hc.length+1
    ·have hw:=wI64 i (by omega);have hG:i<(v0::hc).length:=by simpa using hm
     have he:(v0::hc)[i]?=some (v0::hc)[i]:=List.getElem?_eq_getElem hG;have hd:decide ((i:Int)<((hc.length+1:Nat):Int))=true:=by simp;omega
     have hH:=hj (v0::hc)[i] (List.getElem_mem hG);generalize (v0::hc)[i]=v at he hH;generalize hL:v0::hc=L at *;clear hj;simp only[Zero]
     (repeat' first|refine gA ?_|refine gT ?_ ?_<;>intro hv|fail)
     all_goals (refine zD (i+1,⟨_,_,_⟩) (by first|omega|(dsimp only;omega)) ⟨by first|omega|(dsimp only;omega),?_⟩ (by exact aTd);first|exact hH|exact ho)
    have hd:decide ((i:Int)<((hc.length+1:Nat):Int))=false:=by simp;omega
    simp only[Zero];clear hj
    (refine gA ?_)
    (refine aJ ?_)
    exact⟨(o,0),⟨rfl,rfl⟩,ho⟩
  have hE:(e != 0)=true:=by simpa using he
  clear hk hj
  (refine gA ?_)
  all_goals refine aJ ?_<;>exact⟨(⟨0,0,[]⟩,_),⟨rfl,rfl⟩,yX⟩
def zRN(l:List Val)(nl cl:Bool)(hl:l.length<4294967295)(hr:∀v ∈ l,R64 v.n):∃x:Val×Int,Om CC 138 [.t (.sl nl cl (l.map Val.c))] []=some (.val (.tup [.t (.agg [.int .u8 (x).1.k,.int .i64 (x).1.n,.str (x).1.s]),.t (.int .i64 (x).2)]),[])∧VOK x.1:=by
 refine zJ yA3 rfl ?_
 (have F_:=c5 zF zG zE zC (c3 zB xW (c2 yHg zTt));show W CC 0 8 (zA 138) _ ⟨[(0,_)],[]⟩ _)
 obtain⟨x,hx,hp⟩:=zNo (-1) l nl cl hl hr;clear hr
 (refine gA ?_)
 all_goals refine aJ ?_<;>exact⟨x,⟨rfl,rfl⟩,hp⟩
def zVP(l:List Val)(nl cl:Bool)(hl:l.length<4294967295)(hr:∀v ∈ l,R64 v.n):∃x:Val×Int,Om CC 140 [.t (.sl nl cl (l.map Val.c))] []=some (.val (.tup [.t (.agg [.int .u8 (x).1.k,.int .i64 (x).1.n,.str (x).1.s]),.t (.int .i64 (x).2)]),[])∧VOK x.1:=by
 refine zJ yBw rfl ?_
 (have F_:=c5 zF zG zE zC (c3 zB xW (c2 yGf zTt));show W CC 0 8 (zA 140) _ ⟨[(0,_)],[]⟩ _)
 obtain⟨x,hx,hp⟩:=zNo 1 l nl cl hl hr;clear hr
 (refine gA ?_)
 all_goals refine aJ ?_<;>exact⟨x,⟨rfl,rfl⟩,hp⟩
end Go.Ab
