/- Lemmas. -/
import Derived.Test.YtchgjnkleakhoaaGreatDoorG17
set_option maxRecDepth 1000000
set_option maxHeartbeats 40000000
set_option linter.all false
namespace Go.Ab
open Go.Proofs
attribute [local irreducible] W RW RR
def zL9(l:List Val)(nl cl:Bool)(hl:l.length<9223372036854775808)(hr:∀v ∈ l,VOK v):∃x:Val,Om CC 55 [.t (.sl nl cl (l.map Val.c))] []=some (.val (.t (.agg [.int .u8 x.k,.int .i64 x.n,.str x.s])),[])∧VOK x:=by
 refine zJ yBz rfl ?_
 (have F_:=c5 zF zG zQ zE (c5 zD xE zB yHu (c3 zDz @uU @zHm));show W CC 0 25 (zA 55) _ ⟨[(0,_)],[]⟩ _)
 (refine gA ?_)
 refine zY (α:=Nat×Val) (fun a=>⟨[(2,.box 0 0),(3,.box 1 0),(7,.t (.sl nl cl (l.map Val.c))),(8,.t (.int .i64 l.length)),(9,.t (.int .i64 a.1))],[.box (Zero.c.map .t),.box (a.2.c.map .t)]⟩)
  (fun a=>l.length - a.1) (fun a=>a.1≤l.length∧VOK a.2) (0,uR true) (by kernel_rfl) ⟨Nat.zero_le _,zC0 _⟩ ?_
 rintro⟨i,out⟩ ⟨hi,ho⟩
 try dsimp only at hi ho
 by_cases hi':i<l.length
 ·have hw:=wI64 i (by omega);have he:l[i]?=some l[i]:=List.getElem?_eq_getElem hi';have hd:decide ((i:Int)<l.length)=true:=by simpa using hi'
  have hok:=hr l[i] (List.getElem_mem hi');generalize l[i]=v at he hok;clear hr;simp only[Zero]
  (repeat' first|refine gA ?_|refine gT ?_ ?_<;>intro hv|fail)
  all_goals first
   |((refine aJ ?_);exact⟨⟨_,_,_⟩,⟨rfl,rfl⟩,hok⟩)
   |(refine zC (i+1,⟨_,_,_⟩) (by first|omega|(dsimp only;omega)) ⟨by first|omega|(dsimp only;omega),?_⟩ (by exact aTd);first|exact ho|exact yR)
 have hd:decide ((i:Int)<l.length)=false:=by simpa using hi'
 simp only[Zero]
 (refine gA ?_)
 (refine aJ ?_)
 exact⟨⟨_,_,_⟩,⟨rfl,rfl⟩,ho⟩
def zZj(l:List Val)(nl cl:Bool)(hl:l.length<4294967295)(hr:∀v ∈ l,VOK v):∃x:Val,Om CC 57 [.t (.sl nl cl (l.map Val.c))] []=some (.val (.t (.agg [.int .u8 x.k,.int .i64 x.n,.str x.s])),[])∧VOK x:=by
 refine zJ yCj rfl ?_
 (have F_:=c5 zF zG zE zD (c5 xE zB yGL zNQ (c2 zI7 @zGH));show W CC 0 21 (zA 57) _ ⟨[(0,_)],[]⟩ _)
 (refine gA ?_)
 refine zY (α:=Nat×Bool×List Val) (fun a=>⟨[(2,.box 0 0),(3,match a.2.1 with|true=>.hs 1 0|false=>.t (.sl true true [])),(6,.t (.sl nl cl (l.map Val.c))),(7,.t (.int .i64 l.length)),(8,.t (.int .i64 a.1))],
   match a.2.1 with|true=>[.box (Zero.c.map .t),.arr 3 0 false (a.2.2.map Val.c)]|false=>[.box (Zero.c.map .t)]⟩)
  (fun a=>l.length - a.1) (fun a=>a.1≤l.length∧a.2.2.length=a.1∧(a.2.1=false→a.2.2=[])∧∀v ∈ a.2.2,VOK v) (0,false,[]) (by kernel_rfl) ⟨Nat.zero_le _,rfl,fun _=>rfl,fun v hv=>by cases hv⟩ ?_
 rintro⟨i,st,out⟩ ⟨hi,ho,hn,hor⟩
 try dsimp only at hi ho hn hor
 have hle:lens 3 (out.map Val.c)=true:=vQ Val.c 3 (fun a=>rfl) out
 by_cases hi':i<l.length
 ·have hw:=wI64 i (by omega);have he:l[i]?=some l[i]:=List.getElem?_eq_getElem hi';have hd:decide ((i:Int)<l.length)=true:=by simpa using hi'
  have hsm:decide (i+1<4294967296)=true:=by simp;omega
  have hs1:True:=trivial;generalize l[i]=v at he;cases st with
  |true =>
   simp only[Zero];clear hr hn
   (refine gA ?_)
   refine zC (i+1,true,out++[NotV v]) (by first|omega|(dsimp only;omega)) ⟨by first|omega|(dsimp only;omega),by simp [ho],fun h=>(by cases h),fun x hx=>?_⟩ (by(have X_:=@mapA;exact aTdX));rcases List.mem_append.1 hx with h|h
   ·exact hor x h
   rw[List.mem_singleton.1 h];exact zGD _
  |false =>
   have h0:=hn rfl;subst h0;simp only[Zero];clear hr hor hn
   (refine gA ?_)
   refine zC (i+1,true,[NotV v]) (by first|omega|(dsimp only;omega)) ⟨by first|omega|(dsimp only;omega),?_,fun h=>(by cases h),fun x hx=>?_⟩ (by(have X_:=@mapA;exact aTdX))
   ·simp at ho ⊢;omega
   rw[List.mem_singleton.1 hx];exact zGD _
 have hd:decide ((i:Int)<l.length)=false:=by simpa using hi'
 cases st with
 |true =>
  obtain⟨x,hx,hxo⟩:=zL9 out false false (by omega) hor;simp only[Zero];clear hr hor
  (refine gA ?_)
  (refine aJ ?_)
  exact⟨⟨_,_,_⟩,⟨rfl,rfl⟩,zGD _⟩
 |false =>
  obtain⟨x,hx,hxo⟩:=zL9 [] true true (by simp) (fun v hv=>by cases hv);simp only[List.map_nil] at hx;simp only[Zero];clear hr hor
  (refine gA ?_)
  (refine aJ ?_)
  exact⟨⟨_,_,_⟩,⟨rfl,rfl⟩,zGD _⟩
def zKm(v:Val):∃x:Val×Int,Om CC 267 [.t (.agg [.int .u8 v.k,.int .i64 v.n,.str v.s])] []=some (.val (.tup [.t (.agg [.int .u8 x.1.k,.int .i64 x.1.n,.str x.1.s]),.t (.int .i64 x.2)]),[])∧(R64 v.n→R64 x.1.n):=by
 refine zJ yA7 rfl ?_
 (have F_:=c5 zF zE zD zB (c3 zU yEq (c2 yFP @zSS));show W CC 0 22 (zA 267) _ ⟨[(0,_)],[]⟩ _)
 (repeat' first|refine gA ?_|refine gT ?_ ?_<;>intro hv|fail)
 all_goals refine aJ ?_<;>exact⟨(⟨_,_,_⟩,_),⟨rfl,rfl⟩,by first|exact fun _=>vX|exact fun h=>h|exact fun _=>zV1 _⟩
noncomputable def DecV(v:Val):Val×Int:=(zKm v).choose
def zZM(v:Val):Om CC 267 [.t (.agg [.int .u8 v.k,.int .i64 v.n,.str v.s])] []=some (.val (.tup [.t (.agg [.int .u8 (DecV v).1.k,.int .i64 (DecV v).1.n,.str (DecV v).1.s]),.t (.int .i64 (DecV v).2)]),[]):=(zKm v).choose_spec.1
def yCS(v:Val):R64 v.n→R64 (DecV v).1.n:=(zKm v).choose_spec.2
def zNj(l:List Val)(nl cl:Bool)(hl:l.length<4294967295)(hr:∀v ∈ l,R64 v.n):∃x:Bool×Bool×List Val×Bool×Int,Om CC 230 [.t (.sl nl cl (l.map Val.c))] [] =
   some (.val (.tup [.t (.sl x.1 x.2.1 (x.2.2.1.map Val.c)),.t (.bool x.2.2.2.1),.t (.int .i64 x.2.2.2.2)]),[]) ∧
   (x.2.2.2.1=false→x.2.2.2.2=0→x.2.2.1.length=l.length)∧∀v ∈ x.2.2.1,VOK v:=by
 refine zJ yAc rfl ?_
 (have F_:=c5 zF zG zQ zE (c5 zD xE zB zU (c5 yEn zT0 yCG @zJR @zZM));show W CC 0 61 (zA 230) _ ⟨[(0,_)],[]⟩ _)
 (refine gA ?_)
 refine W.mono (Q:=fun e st=>(e=.exit 0∧∃(b:Bool) (k:Int),get st.T 0=.t (.sl nl cl (l.map Val.c))∧get st.T 2=.t (.sl true true [])∧get st.T 3=.t (.bool b)∧get st.T 5=.t (.int .u8 k)∧st.h=[]∧Ab.get st.T 61=.unk) ∨
   (e=.ret∧get st.T 2=.t (.sl true true [])∧get st.T 3=.t (.bool false)∧get st.T 4=.t (.int .i64 8)∧Ab.get st.T 61=.unk)) ?_ ?_
 ·refine zY (α:=Nat×Bool×Int) (fun a=>⟨[(0,.t (.sl nl cl (l.map Val.c))),(2,.t (.sl true true [])),(3,.t (.bool a.2.1)),(5,.t (.int .u8 a.2.2)),(10,.t (.sl nl cl (l.map Val.c))),(11,.t (.int .i64 l.length)),(12,.t (.int .i64 a.1))],[]⟩)
   (fun a=>l.length - a.1) (fun a=>a.1≤l.length) (0,false,1) (by kernel_rfl) (Nat.zero_le _) ?_
  rintro⟨i,b,k⟩ hi
  try dsimp only at hi
  by_cases hi':i<l.length
  ·have hw:=wI64 i (by omega);have he:l[i]?=some l[i]:=List.getElem?_eq_getElem hi';have hd:decide ((i:Int)<l.length)=true:=by simpa using hi'
   have hok:=hr l[i] (List.getElem_mem hi');generalize l[i]=v at he hok;clear hr
   (repeat' first|refine gA ?_|refine gT ?_ ?_<;>intro hv|fail)
   all_goals first
    |exact .inr ⟨rfl,rfl,rfl,rfl,rfl⟩
    |(refine zC (i+1,_,_) (by first|omega|(dsimp only;omega)) (by first|omega|(dsimp only;omega)) (by exact aTd))
  have hd:decide ((i:Int)<l.length)=false:=by simpa using hi'
  (refine gA ?_)
  exact .inl ⟨rfl,_,_,rfl,rfl,rfl,rfl,rfl,rfl⟩
 rintro e ⟨T,h⟩ hq;rcases hq with ⟨rfl,b,k,g0,g2,g3,g5,gh,gD⟩|⟨rfl,g2,g3,g4,gD⟩
 ·dsimp only at g0 g2 g3 g5 gh gD;subst gh
  (repeat' first|refine gA ?_|refine gT ?_ ?_<;>intro hv|fail)
  ·(refine aJ ?_ (h0:=by(show yI 61 _=some [];simp only[yI,Ab.get,Nat.beq,gD])))
   exact⟨(_,_,[],_,_),⟨rfl,rfl⟩,fun h=>(by cases h),fun v hv=>(by cases hv)⟩
  refine zY (α:=Nat×Bool×List Val) (fun a=>⟨[(2,match a.2.1 with|true=>.hs 0 0|false=>.t (.sl true true [])),(5,.t (.int .u8 k)),(36,.t (.sl nl cl (l.map Val.c))),(37,.t (.int .i64 l.length)),(38,.t (.int .i64 a.1))],
    match a.2.1 with|true=>[.arr 3 0 false (a.2.2.map Val.c)]|false=>[]⟩)
   (fun a=>l.length - a.1) (fun a=>a.1≤l.length∧a.2.2.length=a.1∧(a.2.1=false→a.2.2=[])∧∀v ∈ a.2.2,VOK v) (0,false,[]) (by(have X_:=c5 @g0 @g2 @g3 @g5 @gD;exact aTdX)) ⟨Nat.zero_le _,rfl,fun _=>rfl,fun v hv=>(by cases hv)⟩ ?_
  clear g0 g2 g3 g5 gD;rintro⟨i,st,out⟩ ⟨hi,ho,hn,hor⟩
  try dsimp only at hi ho hn hor
  have hle:lens 3 (out.map Val.c)=true:=vQ Val.c 3 (fun a=>rfl) out
  by_cases hi':i<l.length
  ·have hw:=wI64 i (by omega);have he:l[i]?=some l[i]:=List.getElem?_eq_getElem hi';have hd:decide ((i:Int)<l.length)=true:=by simpa using hi'
   have hsm:decide (i+1<4294967296)=true:=by simp;omega
   have hok:=hr l[i] (List.getElem_mem hi');generalize l[i]=v at he hok;have hdk:=yCS v hok;cases st with
   |true =>
    clear hr hn
    (repeat' first|refine gA ?_|refine gT ?_ ?_<;>intro hv|fail)
    all_goals first
     |((refine aJ ?_);exact⟨(_,_,[],_,_),⟨rfl,rfl⟩,fun _ h0=>(by rw[h0] at hv;cases hv),fun v hv=>(by cases hv)⟩)
     |(refine zC (i+1,true,out++[⟨_,_,_⟩]) (by first|omega|(dsimp only;omega)) ⟨by first|omega|(dsimp only;omega),by simp [ho],fun h=>(by cases h),fun x hx=>?_⟩ (by(have X_:=@mapA;exact aTdX))
       rcases List.mem_append.1 hx with h|h
       ·exact hor x h
       rw[List.mem_singleton.1 h];first|exact yW _ hdk|exact yW _ hok)
   |false =>
    have h0:=hn rfl;subst h0;clear hr hor hn;simp at ho;subst ho
    (repeat' first|refine gA ?_|refine gT ?_ ?_<;>intro hv|fail)
    all_goals first
     |((refine aJ ?_);exact⟨(_,_,[],_,_),⟨rfl,rfl⟩,fun _ h0=>(by rw[h0] at hv;cases hv),fun v hv=>(by cases hv)⟩)
     |(refine zC (1,true,[⟨_,_,_⟩]) (by first|omega|(dsimp only;omega)) ⟨by first|omega|(dsimp only;omega),by simp,fun h=>(by cases h),fun x hx=>?_⟩ (by(have X_:=@mapA;exact aTdX))
       rw[List.mem_singleton.1 hx];first|exact yW _ hdk|exact yW _ hok)
  have hd:decide ((i:Int)<l.length)=false:=by simpa using hi'
  cases st with
  |true =>
   (refine gA ?_)
   (refine aJ ?_)
   exact⟨(_,_,out,_,_),⟨rfl,rfl⟩,fun _ _=>(by dsimp only;omega),hor⟩
  |false =>
   have h0:=hn rfl;subst h0;simp at ho
   (refine gA ?_)
   (refine aJ ?_)
   exact⟨(_,_,[],_,_),⟨rfl,rfl⟩,fun _ _=>(by simp;omega),fun v hv=>(by cases hv)⟩
 dsimp only at g2 g3 g4 gD
 (refine gA ?_)
 (refine aJ ?_ (h0:=by(show yI 61 _=some [];simp only[yI,Ab.get,Nat.beq,gD])))
 exact⟨(_,_,[],_,_),⟨rfl,rfl⟩,fun _ h0=>(by cases h0),fun v hv=>(by cases hv)⟩
def zMu(n e:Int)(nl cl:Bool)(v:Val)(l:List Val)(hn:R64 n):∃x:Val×Int,Om CC 231 [.t (.int .i64 n),.t (.int .i64 e),.box 0 0] [.box [.t (.sl nl cl ([.int .u8 v.k,.int .i64 v.n,.str v.s]::l.map Val.c))]] =
  some (.val (.tup [.t (.agg [.int .u8 x.1.k,.int .i64 x.1.n,.str x.1.s]),.t (.int .i64 x.2)]),[.box [.t (.sl nl cl ([.int .u8 v.k,.int .i64 v.n,.str v.s]::l.map Val.c))]])∧VOK x.1:=by
 refine zAa zY4 rfl ?_
 (have F_:=c5 zF zE zD xE (c3 zB zU (c2 yGd @vT));show W CC 1 17 (zA 231) _ ⟨[(0,_),(1,_),(2,_)],[_]⟩ _)
 (repeat' first|refine gA ?_|refine gT ?_ ?_<;>intro hv|fail)
 all_goals refine aJ ?_<;>(first|exact⟨(⟨0,0,[]⟩,_),⟨rfl,rfl⟩,yR⟩|exact⟨(⟨v.k,n,[]⟩,0),⟨rfl,rfl⟩,yW _ hn⟩)
open Classical in
noncomputable def DoS(n e:Int)(nl cl:Bool)(v:Val)(l:List Val):Val×Int:=if hn:R64 n then (zMu n e nl cl v l hn).choose else (Zero,0)
def yE9(n e:Int)(nl cl:Bool)(k m:Int)(s:List Nat)(l:List Val)(hn:R64 n):Om CC 231 [.t (.int .i64 n),.t (.int .i64 e),.box 0 0] [.box [.t (.sl nl cl ([.int .u8 k,.int .i64 m,.str s]::l.map Val.c))]] =
  some (.val (.tup [.t (.agg [.int .u8 (DoS n e nl cl ⟨k,m,s⟩ l).1.k,.int .i64 (DoS n e nl cl ⟨k,m,s⟩ l).1.n,.str (DoS n e nl cl ⟨k,m,s⟩ l).1.s]),.t (.int .i64 (DoS n e nl cl ⟨k,m,s⟩ l).2)]),[.box [.t (.sl nl cl ([.int .u8 k,.int .i64 m,.str s]::l.map Val.c))]]):=by
 unfold DoS;rw[dif_pos hn];exact(zMu n e nl cl ⟨k,m,s⟩ l hn).choose_spec.1
def yG5(n e:Int)(nl cl:Bool)(v:Val)(l:List Val):VOK (DoS n e nl cl v l).1:=by
 unfold DoS;split
 ·rename_i h;exact(zMu n e nl cl v l h).choose_spec.2
 exact yR
def zDe{α:Type}(a b:α)(l:List α):idx (a::b::l) 1=some b:=rfl
def zLa (f g:Nat) (hbf:yX Tryz.prog f=true) (hbfp:∀x,CC.prim f x=none) (hbg:yX Tryz.prog g=true) (hbgp:∀x,CC.prim g x=none) (F G:Int→Int→Int×Int)
  (hf:∀x y,R64 x→R64 y→Om CC f [.t (.int .i64 x),.t (.int .i64 y)] []=some (.val (.tup [.t (.int .i64 (F x y).1),.t (.int .i64 (F x y).2)]),[]))
  (hg:∀x y,R64 x→R64 y→Om CC g [.t (.int .i64 x),.t (.int .i64 y)] []=some (.val (.tup [.t (.int .i64 (G x y).1),.t (.int .i64 (G x y).2)]),[]))
  (hfr:∀x y,R64 (F x y).1) (hgr:∀x y,R64 (G x y).1) (a b:Val) (ha:R64 a.n) (hb:R64 b.n) :
  ∃x:Val×Int,Om CC 185 [.t (.agg [.int .u8 a.k,.int .i64 a.n,.str a.s]),.t (.agg [.int .u8 b.k,.int .i64 b.n,.str b.s]),.t (.fn f),.t (.fn g)] [] =
   some (.val (.tup [.t (.agg [.int .u8 x.1.k,.int .i64 x.1.n,.str x.1.s]),.t (.int .i64 x.2)]),[])∧VOK x.1:=by
 refine zJ zZ4 rfl ?_
 (have F_:=c5 zF zE zD xE (c5 zB zU zIC yF5 (c3 zSv yFO (c2 @vT @zDe)));show W CC 0 54 (zA 185) _ ⟨[(0,_),(1,_),(2,_),(3,_)],[]⟩ _)
 obtain⟨⟨anl,acl,out,null,e⟩,hal,hlen,hok⟩:=zNj [a,b] false false (by simp) (fun v hv=>by
  rcases List.mem_cons.1 hv with rfl|hv
  ·exact ha
  rw[List.mem_singleton.1 hv];exact hb)
 dsimp only at hal hlen hok;simp only[List.map_cons,List.map_nil,Val.c] at hal;clear ha hb;cases null with
 |true =>
  clear hf hg hfr hgr hlen hok
  (refine gA ?_)
  all_goals refine aJ ?_<;>exact⟨(⟨0,0,[]⟩,_),⟨rfl,rfl⟩,yR⟩
 |false =>
  by_cases he:e=0
  ·subst he;have h2:=hlen rfl rfl;obtain⟨x,y,rfl⟩:∃x y,out=[x,y]:=by
    match out,h2 with
    |[x,y],_=>exact⟨x,y,rfl⟩
   have hx:R64 x.n:=(hok x (by simp)).1;have hy:R64 y.n:=(hok y (by simp)).1;simp only[List.map_cons,List.map_nil,Val.c] at hal;have hf':=hf x.n y.n hx hy;have hg':=hg x.n y.n hx hy;have hs1:∀(n e:Int) (nl cl:Bool) (hn:R64 n),Om CC 231 [.t (.int .i64 n),.t (.int .i64 e),.box 0 0] [.box [.t (.sl nl cl [[.int .u8 x.k,.int .i64 x.n,.str x.s],[.int .u8 y.k,.int .i64 y.n,.str y.s]])]]=_:=fun n e nl cl hn=>yE9 n e nl cl x.k x.n x.s [y] hn
   have hf1:=hs1 _ (F x.n y.n).2 anl acl (hfr x.n y.n);have hg1:=hs1 _ (G x.n y.n).2 anl acl (hgr x.n y.n);simp only[List.map_cons,List.map_nil,Val.c] at hf1 hg1;clear hf hg hlen hok hs1 hfr hgr hx hy h2
   (repeat' first|refine gA ?_|refine gT ?_ ?_<;>intro hv|fail)
   all_goals refine aJ ?_<;>exact⟨(⟨_,_,_⟩,_),⟨rfl,rfl⟩,yG5 _ _ _ _ _ _⟩
  have hne:(e != 0)=true:=by simpa using he
  clear hf hg hfr hgr hlen hok
  (refine gA ?_)
  all_goals refine aJ ?_<;>exact⟨(⟨0,0,[]⟩,_),⟨rfl,rfl⟩,yR⟩
def zJ7(a b:Val)(ha:R64 a.n)(hb:R64 b.n):∃x:Val×Int,Om CC 185 [.t (.agg [.int .u8 a.k,.int .i64 a.n,.str a.s]),.t (.agg [.int .u8 b.k,.int .i64 b.n,.str b.s]),.t (.fn 186),.t (.fn 186)] []=some (.val (.tup [.t (.agg [.int .u8 (x).1.k,.int .i64 (x).1.n,.str (x).1.s]),.t (.int .i64 (x).2)]),[])∧VOK x.1 :=
 zLa _ _ zVy (fun x=>zZ _ x (by decide)) zVy (fun x=>zZ _ x (by decide)) NAdd NAdd (fun x y _ hy=>zQ2 x y) (fun x y _ hy=>zQ2 x y) zTi zTi a b ha hb
open Classical in
noncomputable def zGa(a b:Val):Val×Int:=if h:R64 a.n∧R64 b.n then (zJ7 a b h.1 h.2).choose else (Zero,0)
def zXh(k n:Int)(s:List Nat)(k' n':Int)(s':List Nat)(h:R64 n)(h':R64 n'):Om CC 185 [.t (.agg [.int .u8 k,.int .i64 n,.str s]),.t (.agg [.int .u8 k',.int .i64 n',.str s']),.t (.fn 186),.t (.fn 186)] []=some (.val (.tup [.t (.agg [.int .u8 (zGa ⟨k,n,s⟩ ⟨k',n',s'⟩).1.k,.int .i64 (zGa ⟨k,n,s⟩ ⟨k',n',s'⟩).1.n,.str (zGa ⟨k,n,s⟩ ⟨k',n',s'⟩).1.s]),.t (.int .i64 (zGa ⟨k,n,s⟩ ⟨k',n',s'⟩).2)]),[]):=by
 unfold zGa;have hh:R64 (⟨k,n,s⟩:Val).n∧R64 (⟨k',n',s'⟩:Val).n:=⟨h,h'⟩
 rw[dif_pos hh];exact(zJ7 ⟨k,n,s⟩ ⟨k',n',s'⟩ h h').choose_spec.1
def zZd(a b:Val):VOK (zGa a b).1:=by
 unfold zGa;split
 ·rename_i h;exact(zJ7 a b h.1 h.2).choose_spec.2
 exact yR
def zWn(a b:Val)(ha:R64 a.n)(hb:R64 b.n):∃x:Val×Int,Om CC 127 [.t (.agg [.int .u8 a.k,.int .i64 a.n,.str a.s]),.t (.agg [.int .u8 b.k,.int .i64 b.n,.str b.s])] []=some (.val (.tup [.t (.agg [.int .u8 (x).1.k,.int .i64 (x).1.n,.str (x).1.s]),.t (.int .i64 (x).2)]),[])∧VOK x.1:=by
 refine zJ zZL rfl ?_
 (have F_:=c5 zF zE zD zB (c3 zIC yFB (c2 zLL @zXh));show W CC 0 11 (zA 127) _ ⟨[(0,_),(1,_)],[]⟩ _)
 (refine gA ?_)
 all_goals refine aJ ?_<;>exact⟨zGa a b,⟨rfl,rfl⟩,zZd a b⟩
def zJX(a b:Val)(ha:R64 a.n)(hb:R64 b.n):∃x:Val×Int,Om CC 185 [.t (.agg [.int .u8 a.k,.int .i64 a.n,.str a.s]),.t (.agg [.int .u8 b.k,.int .i64 b.n,.str b.s]),.t (.fn 187),.t (.fn 187)] []=some (.val (.tup [.t (.agg [.int .u8 (x).1.k,.int .i64 (x).1.n,.str (x).1.s]),.t (.int .i64 (x).2)]),[])∧VOK x.1 :=
 zLa _ _ zTJ (fun x=>zZ _ x (by decide)) zTJ (fun x=>zZ _ x (by decide)) NSub NSub (fun x y _ hy=>zQW x y) (fun x y _ hy=>zQW x y) zU6 zU6 a b ha hb
open Classical in
noncomputable def zF0(a b:Val):Val×Int:=if h:R64 a.n∧R64 b.n then (zJX a b h.1 h.2).choose else (Zero,0)
def zWj(k n:Int)(s:List Nat)(k' n':Int)(s':List Nat)(h:R64 n)(h':R64 n'):Om CC 185 [.t (.agg [.int .u8 k,.int .i64 n,.str s]),.t (.agg [.int .u8 k',.int .i64 n',.str s']),.t (.fn 187),.t (.fn 187)] []=some (.val (.tup [.t (.agg [.int .u8 (zF0 ⟨k,n,s⟩ ⟨k',n',s'⟩).1.k,.int .i64 (zF0 ⟨k,n,s⟩ ⟨k',n',s'⟩).1.n,.str (zF0 ⟨k,n,s⟩ ⟨k',n',s'⟩).1.s]),.t (.int .i64 (zF0 ⟨k,n,s⟩ ⟨k',n',s'⟩).2)]),[]):=by
 unfold zF0;have hh:R64 (⟨k,n,s⟩:Val).n∧R64 (⟨k',n',s'⟩:Val).n:=⟨h,h'⟩
 rw[dif_pos hh];exact(zJX ⟨k,n,s⟩ ⟨k',n',s'⟩ h h').choose_spec.1
def yAG(a b:Val):VOK (zF0 a b).1:=by
 unfold zF0;split
 ·rename_i h;exact(zJX a b h.1 h.2).choose_spec.2
 exact yR
def zGN(a b:Val)(ha:R64 a.n)(hb:R64 b.n):∃x:Val×Int,Om CC 128 [.t (.agg [.int .u8 a.k,.int .i64 a.n,.str a.s]),.t (.agg [.int .u8 b.k,.int .i64 b.n,.str b.s])] []=some (.val (.tup [.t (.agg [.int .u8 (x).1.k,.int .i64 (x).1.n,.str (x).1.s]),.t (.int .i64 (x).2)]),[])∧VOK x.1:=by
 refine zJ zXV rfl ?_
 (have F_:=c5 zF zE zD zB (c3 zIC yFa (c2 zLL @zWj));show W CC 0 11 (zA 128) _ ⟨[(0,_),(1,_)],[]⟩ _)
 (refine gA ?_)
 all_goals refine aJ ?_<;>exact⟨zF0 a b,⟨rfl,rfl⟩,yAG a b⟩
open Classical in
noncomputable def VSub(a b:Val):Val×Int:=if h:R64 a.n∧R64 b.n then (zGN a b h.1 h.2).choose else (Zero,0)
def zYz(k n:Int)(s:List Nat)(k' n':Int)(s':List Nat)(h:R64 n)(h':R64 n'):Om CC 128 [.t (.agg [.int .u8 k,.int .i64 n,.str s]),.t (.agg [.int .u8 k',.int .i64 n',.str s'])] []=some (.val (.tup [.t (.agg [.int .u8 (VSub ⟨k,n,s⟩ ⟨k',n',s'⟩).1.k,.int .i64 (VSub ⟨k,n,s⟩ ⟨k',n',s'⟩).1.n,.str (VSub ⟨k,n,s⟩ ⟨k',n',s'⟩).1.s]),.t (.int .i64 (VSub ⟨k,n,s⟩ ⟨k',n',s'⟩).2)]),[]):=by
 unfold VSub;have hh:R64 (⟨k,n,s⟩:Val).n∧R64 (⟨k',n',s'⟩:Val).n:=⟨h,h'⟩
 rw[dif_pos hh];exact(zGN ⟨k,n,s⟩ ⟨k',n',s'⟩ h h').choose_spec.1
def yFe(a b:Val):VOK (VSub a b).1:=by
 unfold VSub;split
 ·rename_i h;exact(zGN a b h.1 h.2).choose_spec.2
 exact yR
def zKe(a b:Val)(ha:R64 a.n)(hb:R64 b.n):∃x:Val×Int,Om CC 185 [.t (.agg [.int .u8 a.k,.int .i64 a.n,.str a.s]),.t (.agg [.int .u8 b.k,.int .i64 b.n,.str b.s]),.t (.fn 188),.t (.fn 189)] []=some (.val (.tup [.t (.agg [.int .u8 (x).1.k,.int .i64 (x).1.n,.str (x).1.s]),.t (.int .i64 (x).2)]),[])∧VOK x.1 :=
 zLa _ _ zUz (fun x=>zZ _ x (by decide)) yE1 (fun x=>zZ _ x (by decide)) NMul zIK (fun x y _ hy=>zQ6 x y) (fun x y _ hy=>zR4 x y) zT4 zS4 a b ha hb
open Classical in
noncomputable def zFU(a b:Val):Val×Int:=if h:R64 a.n∧R64 b.n then (zKe a b h.1 h.2).choose else (Zero,0)
def zWW(k n:Int)(s:List Nat)(k' n':Int)(s':List Nat)(h:R64 n)(h':R64 n'):Om CC 185 [.t (.agg [.int .u8 k,.int .i64 n,.str s]),.t (.agg [.int .u8 k',.int .i64 n',.str s']),.t (.fn 188),.t (.fn 189)] []=some (.val (.tup [.t (.agg [.int .u8 (zFU ⟨k,n,s⟩ ⟨k',n',s'⟩).1.k,.int .i64 (zFU ⟨k,n,s⟩ ⟨k',n',s'⟩).1.n,.str (zFU ⟨k,n,s⟩ ⟨k',n',s'⟩).1.s]),.t (.int .i64 (zFU ⟨k,n,s⟩ ⟨k',n',s'⟩).2)]),[]):=by
 unfold zFU;have hh:R64 (⟨k,n,s⟩:Val).n∧R64 (⟨k',n',s'⟩:Val).n:=⟨h,h'⟩
 rw[dif_pos hh];exact(zKe ⟨k,n,s⟩ ⟨k',n',s'⟩ h h').choose_spec.1
def zZ7(a b:Val):VOK (zFU a b).1:=by
 unfold zFU;split
 ·rename_i h;exact(zKe a b h.1 h.2).choose_spec.2
 exact yR
def zV2(a b:Val)(ha:R64 a.n)(hb:R64 b.n):∃x:Val×Int,Om CC 129 [.t (.agg [.int .u8 a.k,.int .i64 a.n,.str a.s]),.t (.agg [.int .u8 b.k,.int .i64 b.n,.str b.s])] []=some (.val (.tup [.t (.agg [.int .u8 (x).1.k,.int .i64 (x).1.n,.str (x).1.s]),.t (.int .i64 (x).2)]),[])∧VOK x.1:=by
 refine zJ yAB rfl ?_
 (have F_:=c5 zF zE zD zB (c3 zIC yF1 (c2 zLL @zWW));show W CC 0 11 (zA 129) _ ⟨[(0,_),(1,_)],[]⟩ _)
 (refine gA ?_)
 all_goals refine aJ ?_<;>exact⟨zFU a b,⟨rfl,rfl⟩,zZ7 a b⟩
def zJL(a b:Val)(ha:R64 a.n)(hb:R64 b.n):∃x:Val×Int,Om CC 185 [.t (.agg [.int .u8 a.k,.int .i64 a.n,.str a.s]),.t (.agg [.int .u8 b.k,.int .i64 b.n,.str b.s]),.t (.fn 190),.t (.fn 191)] []=some (.val (.tup [.t (.agg [.int .u8 (x).1.k,.int .i64 (x).1.n,.str (x).1.s]),.t (.int .i64 (x).2)]),[])∧VOK x.1 :=
 zLa _ _ yB5 (fun x=>zZ _ x (by decide)) yDu (fun x=>zZ _ x (by decide)) NQuo zIY (fun x y _ hy=>zY2 x y hy) (fun x y _ hy=>zRO x y) yBK zU4 a b ha hb
open Classical in
noncomputable def zF3(a b:Val):Val×Int:=if h:R64 a.n∧R64 b.n then (zJL a b h.1 h.2).choose else (Zero,0)
def zWa(k n:Int)(s:List Nat)(k' n':Int)(s':List Nat)(h:R64 n)(h':R64 n'):Om CC 185 [.t (.agg [.int .u8 k,.int .i64 n,.str s]),.t (.agg [.int .u8 k',.int .i64 n',.str s']),.t (.fn 190),.t (.fn 191)] []=some (.val (.tup [.t (.agg [.int .u8 (zF3 ⟨k,n,s⟩ ⟨k',n',s'⟩).1.k,.int .i64 (zF3 ⟨k,n,s⟩ ⟨k',n',s'⟩).1.n,.str (zF3 ⟨k,n,s⟩ ⟨k',n',s'⟩).1.s]),.t (.int .i64 (zF3 ⟨k,n,s⟩ ⟨k',n',s'⟩).2)]),[]):=by
 unfold zF3;have hh:R64 (⟨k,n,s⟩:Val).n∧R64 (⟨k',n',s'⟩:Val).n:=⟨h,h'⟩
 rw[dif_pos hh];exact(zJL ⟨k,n,s⟩ ⟨k',n',s'⟩ h h').choose_spec.1
def yAj(a b:Val):VOK (zF3 a b).1:=by
 unfold zF3;split
 ·rename_i h;exact(zJL a b h.1 h.2).choose_spec.2
 exact yR
def zWZ(a b:Val)(ha:R64 a.n)(hb:R64 b.n):∃x:Val×Int,Om CC 130 [.t (.agg [.int .u8 a.k,.int .i64 a.n,.str a.s]),.t (.agg [.int .u8 b.k,.int .i64 b.n,.str b.s])] []=some (.val (.tup [.t (.agg [.int .u8 (x).1.k,.int .i64 (x).1.n,.str (x).1.s]),.t (.int .i64 (x).2)]),[])∧VOK x.1:=by
 refine zJ zZS rfl ?_
 (have F_:=c5 zF zE zD zB (c3 zIC yCy (c2 zLL @zWa));show W CC 0 11 (zA 130) _ ⟨[(0,_),(1,_)],[]⟩ _)
 (refine gA ?_)
 all_goals refine aJ ?_<;>exact⟨zF3 a b,⟨rfl,rfl⟩,yAj a b⟩
def zKn(a:Val)(ha:R64 a.n):∃x:Val×Int,Om CC 134 [.t (.agg [.int .u8 a.k,.int .i64 a.n,.str a.s])] []=some (.val (.tup [.t (.agg [.int .u8 (x).1.k,.int .i64 (x).1.n,.str (x).1.s]),.t (.int .i64 (x).2)]),[])∧VOK x.1:=by
 refine zJ yAM rfl ?_
 (have F_:=c5 zF zE zD zB (c3 yFU zSF (c2 @zYz @vX));show W CC 0 13 (zA 134) _ ⟨[(0,_)],[]⟩ _)
 (refine gA ?_)
 all_goals refine aJ ?_<;>exact⟨VSub ⟨_,_,_⟩ a,⟨rfl,rfl⟩,yFe _ a⟩
open Classical in
noncomputable def VNeg(a:Val):Val×Int:=if h:R64 a.n then (zKn a h).choose else (Zero,0)
def zP5(k n:Int)(s:List Nat)(h:R64 n):Om CC 134 [.t (.agg [.int .u8 k,.int .i64 n,.str s])] []=some (.val (.tup [.t (.agg [.int .u8 (VNeg ⟨k,n,s⟩).1.k,.int .i64 (VNeg ⟨k,n,s⟩).1.n,.str (VNeg ⟨k,n,s⟩).1.s]),.t (.int .i64 (VNeg ⟨k,n,s⟩).2)]),[]):=by
 unfold VNeg;have hh:R64 (⟨k,n,s⟩:Val).n:=h;rw[dif_pos hh];exact(zKn ⟨k,n,s⟩ h).choose_spec.1
def zS2(a:Val):VOK (VNeg a).1:=by
 unfold VNeg;split
 ·rename_i h;exact(zKn a h).choose_spec.2
 exact yR
def zMW(c:Int)(l:List Val)(nl cl:Bool)(hl:l.length<4294967295)(hr:∀v ∈ l,R64 v.n):∃x:Val×Int,Om CC 192 [.t (.int .i64 c),.t (.sl nl cl (l.map Val.c))] []=some (.val (.tup [.t (.agg [.int .u8 (x).1.k,.int .i64 (x).1.n,.str (x).1.s]),.t (.int .i64 (x).2)]),[])∧VOK x.1:=by
 refine zJ zY3 rfl ?_
 (have F_:=c5 zF zG zE zD (c5 xE zB zU yCm (c3 zSv zU0 (c2 @vT @zNr)));show W CC 0 49 (zA 192) _ ⟨[(0,_),(1,_)],[]⟩ _)
 obtain⟨⟨anl,acl,out,null,e⟩,hal,hlen,hok⟩:=zNj l nl cl hl hr;dsimp only at hal hlen hok;clear hr;cases null with
 |true =>
  clear hlen hok
  (refine gA ?_)
  all_goals refine aJ ?_<;>exact⟨(⟨0,0,[]⟩,_),⟨rfl,rfl⟩,yR⟩
 |false =>
  by_cases he:e=0
  ·subst he;have h2:=hlen rfl rfl;clear hlen;cases out with
   |nil =>
    simp only[List.map_nil] at hal;clear hok h2
    (repeat' first|refine gA ?_|refine gT ?_ ?_<;>intro hv<;>try cases hv;done|fail)
    all_goals refine aJ ?_<;>exact⟨(⟨0,0,[]⟩,_),⟨rfl,rfl⟩,yR⟩
   |cons v0 rest =>
    have hlr:rest.length+1<4294967295:=by simp at h2;omega
    have hne:(((rest.length+1:Nat):Int)==0)=false:=by simp;omega
    have h0:=hok v0 (by simp);clear h2;simp only[List.map_cons] at hal
    (refine gA ?_)
    refine zY (α:=Nat×Val) (fun a=>⟨[(0,.t (.int .i64 c)),(4,.box 0 0),(9,.box 1 0),(33,.t (.sl anl acl ((v0::rest).map Val.c))),(34,.t (.int .i64 (rest.length+1:Nat))),(35,.t (.int .i64 a.1))],[.box (Zero.c.map .t),.box (a.2.c.map .t)]⟩)
     (fun a=>rest.length+1 - a.1) (fun a=>a.1≤rest.length+1∧VOK a.2) (0,v0) (by kernel_rfl) ⟨Nat.zero_le _,h0⟩ ?_
    clear hal hne h0;rintro⟨i,o⟩ ⟨hi,ho⟩
    try dsimp only at hi ho
    by_cases hi':i<rest.length+1
    ·have hw:=wI64 i (by omega);have hi2:i<(v0::rest).length:=by simpa using hi'
     have he:(v0::rest)[i]?=some (v0::rest)[i]:=List.getElem?_eq_getElem hi2;have hd:decide ((i:Int)<((rest.length+1:Nat):Int))=true:=by simp;omega
     have hv0:=hok (v0::rest)[i] (List.getElem_mem hi2);generalize (v0::rest)[i]=v at he hv0;generalize hL:v0::rest=L at *;clear hok;simp only[Zero]
     (repeat' first|refine gA ?_|refine gT ?_ ?_<;>intro hv|fail)
     all_goals (refine zC (i+1,⟨_,_,_⟩) (by first|omega|(dsimp only;omega)) ⟨by first|omega|(dsimp only;omega),?_⟩ (by exact aTd);first|exact hv0|exact ho)
    have hd:decide ((i:Int)<((rest.length+1:Nat):Int))=false:=by simp;omega
    simp only[Zero];clear hok
    (refine gA ?_)
    (refine aJ ?_)
    exact⟨(o,0),⟨rfl,rfl⟩,ho⟩
  have hne:(e != 0)=true:=by simpa using he
  clear hlen hok
  (refine gA ?_)
  all_goals refine aJ ?_<;>exact⟨(⟨0,0,[]⟩,_),⟨rfl,rfl⟩,yR⟩
def zRY(l:List Val)(nl cl:Bool)(hl:l.length<4294967295)(hr:∀v ∈ l,R64 v.n):∃x:Val×Int,Om CC 136 [.t (.sl nl cl (l.map Val.c))] []=some (.val (.tup [.t (.agg [.int .u8 (x).1.k,.int .i64 (x).1.n,.str (x).1.s]),.t (.int .i64 (x).2)]),[])∧VOK x.1:=by
 refine zJ zYY rfl ?_
 (have F_:=c5 zF zG zE zD (c3 xE zB (c2 yEt zUP));show W CC 0 8 (zA 136) _ ⟨[(0,_)],[]⟩ _)
 obtain⟨x,hx,hp⟩:=zMW (-1) l nl cl hl hr;clear hr
 (refine gA ?_)
 all_goals refine aJ ?_<;>exact⟨x,⟨rfl,rfl⟩,hp⟩
def zTe(l:List Val)(nl cl:Bool)(hl:l.length<4294967295)(hr:∀v ∈ l,R64 v.n):∃x:Val×Int,Om CC 138 [.t (.sl nl cl (l.map Val.c))] []=some (.val (.tup [.t (.agg [.int .u8 (x).1.k,.int .i64 (x).1.n,.str (x).1.s]),.t (.int .i64 (x).2)]),[])∧VOK x.1:=by
 refine zJ zZI rfl ?_
 (have F_:=c5 zF zG zE zD (c3 xE zB (c2 yEg zUP));show W CC 0 8 (zA 138) _ ⟨[(0,_)],[]⟩ _)
 obtain⟨x,hx,hp⟩:=zMW 1 l nl cl hl hr;clear hr
 (refine gA ?_)
 all_goals refine aJ ?_<;>exact⟨x,⟨rfl,rfl⟩,hp⟩
end Go.Ab
