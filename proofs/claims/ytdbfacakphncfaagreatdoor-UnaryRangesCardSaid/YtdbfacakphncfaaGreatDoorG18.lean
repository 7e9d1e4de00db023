/- Lemmas. -/
import Derived.Test.YtdbfacakphncfaaGreatDoorG17
set_option maxRecDepth 1000000
set_option maxHeartbeats 40000000
set_option linter.all false
namespace Go.Ab
open Go.Proofs
attribute [local irreducible] W RW RR
def zLG(l:List Val)(nl cl:Bool)(hl:l.length<9223372036854775808)(hr:∀v ∈ l,VOK v):∃x:Val,Om CC 42 [.t (.sl nl cl (l.map Val.c))] []=some (.val (.t (.agg [.int .u8 x.k,.int .i64 x.n,.str x.s])),[])∧VOK x:=by
 refine zH yG6 rfl ?_
 (have F_:=c5 zF zG zN zE (c5 zD zC xV yHm (c3 zDT @qL @zG1));show W CC 0 25 (zA 42) _ ⟨[(0,_)],[]⟩ _)
 (repeat' first|refine gA ?_|refine gT ?_ ?_<;>intro hv<;>try cases hv;done|fail)
 refine zW (α:=Nat×Val) (fun a=>⟨[(2,.box 0 0),(3,.box 1 0),(7,.t (.sl nl cl (l.map Val.c))),(8,.t (.int .i64 l.length)),(9,.t (.int .i64 a.1))],[.box (Zero.c.map .t),.box (a.2.c.map .t)]⟩)
  (fun a=>l.length - a.1) (fun a=>a.1≤l.length∧VOK a.2) (0,uN true) (by kernel_rfl) ⟨Nat.zero_le _,zCr _⟩ ?_
 rintro⟨i,out⟩ ⟨hi,ho⟩
 try dsimp only at hi ho
 by_cases hi':i<l.length
 ·have hw:=wI64 i (by omega);have he:l[i]?=some l[i]:=List.getElem?_eq_getElem hi';have hd:decide ((i:Int)<l.length)=true:=by simpa using hi'
  have hok:=hr l[i] (List.getElem_mem hi');generalize l[i]=v at he hok;clear hr;simp only[Zero]
  (repeat' first|refine gA ?_|refine gT ?_ ?_<;>intro hv<;>try cases hv;done|fail)
  all_goals first
   |((refine aM ?_);exact⟨⟨_,_,_⟩,⟨rfl,rfl⟩,hok⟩)
   |(refine zB (i+1,⟨_,_,_⟩) (by first|omega|(dsimp only;omega)) ⟨by first|omega|(dsimp only;omega),?_⟩ (by exact aTd);first|exact ho|exact yU)
 have hd:decide ((i:Int)<l.length)=false:=by simpa using hi'
 simp only[Zero]
 (repeat' first|refine gA ?_|refine gT ?_ ?_<;>intro hv<;>try cases hv;done|fail)
 (refine aM ?_)
 exact⟨⟨_,_,_⟩,⟨rfl,rfl⟩,ho⟩
def zYh(l:List Val)(nl cl:Bool)(hl:l.length<4294967295)(hr:∀v ∈ l,VOK v):∃x:Val,Om CC 44 [.t (.sl nl cl (l.map Val.c))] []=some (.val (.t (.agg [.int .u8 x.k,.int .i64 x.n,.str x.s])),[])∧VOK x:=by
 refine zH yB5 rfl ?_
 (have F_:=c5 zF zG zE zD (c5 zC xV yHV zNy (c2 zIG @zGq));show W CC 0 21 (zA 44) _ ⟨[(0,_)],[]⟩ _)
 (repeat' first|refine gA ?_|refine gT ?_ ?_<;>intro hv<;>try cases hv;done|fail)
 refine zW (α:=Nat×Bool×List Val) (fun a=>⟨[(2,.box 0 0),(3,match a.2.1 with|true=>.hs 1 0|false=>.t (.sl true true [])),(6,.t (.sl nl cl (l.map Val.c))),(7,.t (.int .i64 l.length)),(8,.t (.int .i64 a.1))],
   match a.2.1 with|true=>[.box (Zero.c.map .t),.arr 3 0 false (a.2.2.map Val.c)]|false=>[.box (Zero.c.map .t)]⟩)
  (fun a=>l.length - a.1) (fun a=>a.1≤l.length∧a.2.2.length=a.1∧(a.2.1=false→a.2.2=[])∧∀v ∈ a.2.2,VOK v) (0,false,[]) (by kernel_rfl) ⟨Nat.zero_le _,rfl,fun _=>rfl,fun v hv=>by cases hv⟩ ?_
 rintro⟨i,st,out⟩ ⟨hi,ho,hn,hor⟩
 try dsimp only at hi ho hn hor
 have hle:lens 3 (out.map Val.c)=true:=vF Val.c 3 (fun a=>rfl) out
 by_cases hi':i<l.length
 ·have hw:=wI64 i (by omega);have he:l[i]?=some l[i]:=List.getElem?_eq_getElem hi';have hd:decide ((i:Int)<l.length)=true:=by simpa using hi'
  have hsm:decide (i+1<4294967296)=true:=by simp;omega
  have hs1:True:=trivial;generalize l[i]=v at he;cases st with
  |true =>
   simp only[Zero];clear hr hn
   (repeat' first|refine gA ?_|refine gT ?_ ?_<;>intro hv<;>try cases hv;done|fail)
   refine zB (i+1,true,out++[NotV v]) (by first|omega|(dsimp only;omega)) ⟨by first|omega|(dsimp only;omega),by simp [ho],fun h=>(by cases h),fun x hx=>?_⟩ (by(have X_:=@mapA;exact aTdX));rcases List.mem_append.1 hx with h|h
   ·exact hor x h
   rw[List.mem_singleton.1 h];exact zGk _
  |false =>
   have h0:=hn rfl;subst h0;simp only[Zero];clear hr hor hn
   (repeat' first|refine gA ?_|refine gT ?_ ?_<;>intro hv<;>try cases hv;done|fail)
   refine zB (i+1,true,[NotV v]) (by first|omega|(dsimp only;omega)) ⟨by first|omega|(dsimp only;omega),?_,fun h=>(by cases h),fun x hx=>?_⟩ (by(have X_:=@mapA;exact aTdX))
   ·simp at ho ⊢;omega
   rw[List.mem_singleton.1 hx];exact zGk _
 have hd:decide ((i:Int)<l.length)=false:=by simpa using hi'
 cases st with
 |true =>
  obtain⟨x,hx,hxo⟩:=zLG out false false (by omega) hor;simp only[Zero];clear hr hor
  (repeat' first|refine gA ?_|refine gT ?_ ?_<;>intro hv<;>try cases hv;done|fail)
  (refine aM ?_)
  exact⟨⟨_,_,_⟩,⟨rfl,rfl⟩,zGk _⟩
 |false =>
  obtain⟨x,hx,hxo⟩:=zLG [] true true (by simp) (fun v hv=>by cases hv);simp only[List.map_nil] at hx;simp only[Zero];clear hr hor
  (repeat' first|refine gA ?_|refine gT ?_ ?_<;>intro hv<;>try cases hv;done|fail)
  (refine aM ?_)
  exact⟨⟨_,_,_⟩,⟨rfl,rfl⟩,zGk _⟩
def zJ1(v:Val):∃x:Val×Int,Om CC 250 [.t (.agg [.int .u8 v.k,.int .i64 v.n,.str v.s])] []=some (.val (.tup [.t (.agg [.int .u8 x.1.k,.int .i64 x.1.n,.str x.1.s]),.t (.int .i64 x.2)]),[])∧(R64 v.n→R64 x.1.n):=by
 refine zH zXS rfl ?_
 (have F_:=c5 zF zE zD zC (c3 zQ yBY (c2 yDf @zSl));show W CC 0 22 (zA 250) _ ⟨[(0,_)],[]⟩ _)
 (repeat' first|refine gA ?_|refine gT ?_ ?_<;>intro hv<;>try cases hv;done|fail)
 all_goals refine aM ?_<;>exact⟨(⟨_,_,_⟩,_),⟨rfl,rfl⟩,by first|exact fun _=>vU|exact fun h=>h|exact fun _=>zWe _⟩
noncomputable def DecV(v:Val):Val×Int:=(zJ1 v).choose
def yAm(v:Val):Om CC 250 [.t (.agg [.int .u8 v.k,.int .i64 v.n,.str v.s])] []=some (.val (.tup [.t (.agg [.int .u8 (DecV v).1.k,.int .i64 (DecV v).1.n,.str (DecV v).1.s]),.t (.int .i64 (DecV v).2)]),[]):=(zJ1 v).choose_spec.1
def yC2(v:Val):R64 v.n→R64 (DecV v).1.n:=(zJ1 v).choose_spec.2
def zMv(l:List Val)(nl cl:Bool)(hl:l.length<4294967295)(hr:∀v ∈ l,R64 v.n):∃x:Bool×Bool×List Val×Bool×Int,Om CC 215 [.t (.sl nl cl (l.map Val.c))] [] =
   some (.val (.tup [.t (.sl x.1 x.2.1 (x.2.2.1.map Val.c)),.t (.bool x.2.2.2.1),.t (.int .i64 x.2.2.2.2)]),[]) ∧
   (x.2.2.2.1=false→x.2.2.2.2=0→x.2.2.1.length=l.length)∧∀v ∈ x.2.2.1,VOK v:=by
 refine zH zZQ rfl ?_
 (have F_:=c5 zF zG zN zE (c5 zD zC zQ xV (c5 yDF zS8 yGU @zJA @yAm));show W CC 0 61 (zA 215) _ ⟨[(0,_)],[]⟩ _)
 (repeat' first|refine gA ?_|refine gT ?_ ?_<;>intro hv<;>try cases hv;done|fail)
 refine W.mono (Q:=fun e st=>(e=.exit 0∧∃(b:Bool) (k:Int),get st.T 0=.t (.sl nl cl (l.map Val.c))∧get st.T 2=.t (.sl true true [])∧get st.T 3=.t (.bool b)∧get st.T 5=.t (.int .u8 k)∧st.h=[]∧Ab.get st.T 61=.unk) ∨
   (e=.ret∧get st.T 2=.t (.sl true true [])∧get st.T 3=.t (.bool false)∧get st.T 4=.t (.int .i64 8)∧Ab.get st.T 61=.unk)) ?_ ?_
 ·refine zW (α:=Nat×Bool×Int) (fun a=>⟨[(0,.t (.sl nl cl (l.map Val.c))),(2,.t (.sl true true [])),(3,.t (.bool a.2.1)),(5,.t (.int .u8 a.2.2)),(10,.t (.sl nl cl (l.map Val.c))),(11,.t (.int .i64 l.length)),(12,.t (.int .i64 a.1))],[]⟩)
   (fun a=>l.length - a.1) (fun a=>a.1≤l.length) (0,false,1) (by kernel_rfl) (Nat.zero_le _) ?_
  rintro⟨i,b,k⟩ hi
  try dsimp only at hi
  by_cases hi':i<l.length
  ·have hw:=wI64 i (by omega);have he:l[i]?=some l[i]:=List.getElem?_eq_getElem hi';have hd:decide ((i:Int)<l.length)=true:=by simpa using hi'
   have hok:=hr l[i] (List.getElem_mem hi');generalize l[i]=v at he hok;clear hr
   (repeat' first|refine gA ?_|refine gT ?_ ?_<;>intro hv<;>try cases hv;done|fail)
   all_goals first
    |exact .inr ⟨rfl,rfl,rfl,rfl,rfl⟩
    |(refine zB (i+1,_,_) (by first|omega|(dsimp only;omega)) (by first|omega|(dsimp only;omega)) (by exact aTd))
  have hd:decide ((i:Int)<l.length)=false:=by simpa using hi'
  (repeat' first|refine gA ?_|refine gT ?_ ?_<;>intro hv<;>try cases hv;done|fail)
  exact .inl ⟨rfl,_,_,rfl,rfl,rfl,rfl,rfl,rfl⟩
 rintro e ⟨T,h⟩ hq;rcases hq with ⟨rfl,b,k,g0,g2,g3,g5,gh,gD⟩|⟨rfl,g2,g3,g4,gD⟩
 ·dsimp only at g0 g2 g3 g5 gh gD;subst gh
  (repeat' first|refine gA ?_|refine gT ?_ ?_<;>intro hv<;>try cases hv;done|fail)
  ·(refine aM ?_ (h0:=by(show yG 61 _=some [];simp only[yG,Ab.get,Nat.beq,gD])))
   exact⟨(_,_,[],_,_),⟨rfl,rfl⟩,fun h=>(by cases h),fun v hv=>(by cases hv)⟩
  refine zW (α:=Nat×Bool×List Val) (fun a=>⟨[(2,match a.2.1 with|true=>.hs 0 0|false=>.t (.sl true true [])),(5,.t (.int .u8 k)),(36,.t (.sl nl cl (l.map Val.c))),(37,.t (.int .i64 l.length)),(38,.t (.int .i64 a.1))],
    match a.2.1 with|true=>[.arr 3 0 false (a.2.2.map Val.c)]|false=>[]⟩)
   (fun a=>l.length - a.1) (fun a=>a.1≤l.length∧a.2.2.length=a.1∧(a.2.1=false→a.2.2=[])∧∀v ∈ a.2.2,VOK v) (0,false,[]) (by(have X_:=c5 @g0 @g2 @g3 @g5 @gD;exact aTdX)) ⟨Nat.zero_le _,rfl,fun _=>rfl,fun v hv=>(by cases hv)⟩ ?_
  clear g0 g2 g3 g5 gD;rintro⟨i,st,out⟩ ⟨hi,ho,hn,hor⟩
  try dsimp only at hi ho hn hor
  have hle:lens 3 (out.map Val.c)=true:=vF Val.c 3 (fun a=>rfl) out
  by_cases hi':i<l.length
  ·have hw:=wI64 i (by omega);have he:l[i]?=some l[i]:=List.getElem?_eq_getElem hi';have hd:decide ((i:Int)<l.length)=true:=by simpa using hi'
   have hsm:decide (i+1<4294967296)=true:=by simp;omega
   have hok:=hr l[i] (List.getElem_mem hi');generalize l[i]=v at he hok;have hdk:=yC2 v hok;cases st with
   |true =>
    clear hr hn
    (repeat' first|refine gA ?_|refine gT ?_ ?_<;>intro hv<;>try cases hv;done|fail)
    all_goals first
     |((refine aM ?_);exact⟨(_,_,[],_,_),⟨rfl,rfl⟩,fun _ h0=>(by rw[h0] at hv;cases hv),fun v hv=>(by cases hv)⟩)
     |(refine zB (i+1,true,out++[⟨_,_,_⟩]) (by first|omega|(dsimp only;omega)) ⟨by first|omega|(dsimp only;omega),by simp [ho],fun h=>(by cases h),fun x hx=>?_⟩ (by(have X_:=@mapA;exact aTdX))
       rcases List.mem_append.1 hx with h|h
       ·exact hor x h
       rw[List.mem_singleton.1 h];first|exact yX _ hdk|exact yX _ hok)
   |false =>
    have h0:=hn rfl;subst h0;clear hr hor hn;simp at ho;subst ho
    (repeat' first|refine gA ?_|refine gT ?_ ?_<;>intro hv<;>try cases hv;done|fail)
    all_goals first
     |((refine aM ?_);exact⟨(_,_,[],_,_),⟨rfl,rfl⟩,fun _ h0=>(by rw[h0] at hv;cases hv),fun v hv=>(by cases hv)⟩)
     |(refine zB (1,true,[⟨_,_,_⟩]) (by first|omega|(dsimp only;omega)) ⟨by first|omega|(dsimp only;omega),by simp,fun h=>(by cases h),fun x hx=>?_⟩ (by(have X_:=@mapA;exact aTdX))
       rw[List.mem_singleton.1 hx];first|exact yX _ hdk|exact yX _ hok)
  have hd:decide ((i:Int)<l.length)=false:=by simpa using hi'
  cases st with
  |true =>
   (repeat' first|refine gA ?_|refine gT ?_ ?_<;>intro hv<;>try cases hv;done|fail)
   (refine aM ?_)
   exact⟨(_,_,out,_,_),⟨rfl,rfl⟩,fun _ _=>(by dsimp only;omega),hor⟩
  |false =>
   have h0:=hn rfl;subst h0;simp at ho
   (repeat' first|refine gA ?_|refine gT ?_ ?_<;>intro hv<;>try cases hv;done|fail)
   (refine aM ?_)
   exact⟨(_,_,[],_,_),⟨rfl,rfl⟩,fun _ _=>(by simp;omega),fun v hv=>(by cases hv)⟩
 dsimp only at g2 g3 g4 gD
 (repeat' first|refine gA ?_|refine gT ?_ ?_<;>intro hv<;>try cases hv;done|fail)
 (refine aM ?_ (h0:=by(show yG 61 _=some [];simp only[yG,Ab.get,Nat.beq,gD])))
 exact⟨(_,_,[],_,_),⟨rfl,rfl⟩,fun _ h0=>(by cases h0),fun v hv=>(by cases hv)⟩
def zL8(n e:Int)(nl cl:Bool)(v:Val)(l:List Val)(hn:R64 n):∃x:Val×Int,Om CC 216 [.t (.int .i64 n),.t (.int .i64 e),.box 0 0] [.box [.t (.sl nl cl ([.int .u8 v.k,.int .i64 v.n,.str v.s]::l.map Val.c))]] =
  some (.val (.tup [.t (.agg [.int .u8 x.1.k,.int .i64 x.1.n,.str x.1.s]),.t (.int .i64 x.2)]),[.box [.t (.sl nl cl ([.int .u8 v.k,.int .i64 v.n,.str v.s]::l.map Val.c))]])∧VOK x.1:=by
 refine uK zZd rfl ?_
 (have F_:=c5 zF zE zD zC (c3 zQ xV (c2 yGN @uZ));show W CC 1 17 (zA 216) _ ⟨[(0,_),(1,_),(2,_)],[_]⟩ _)
 (repeat' first|refine gA ?_|refine gT ?_ ?_<;>intro hv<;>try cases hv;done|fail)
 all_goals refine aM ?_<;>(first|exact⟨(⟨0,0,[]⟩,_),⟨rfl,rfl⟩,yU⟩|exact⟨(⟨v.k,n,[]⟩,0),⟨rfl,rfl⟩,yX _ hn⟩)
open Classical in
noncomputable def DoS(n e:Int)(nl cl:Bool)(v:Val)(l:List Val):Val×Int:=if hn:R64 n then (zL8 n e nl cl v l hn).choose else (Zero,0)
def yD8(n e:Int)(nl cl:Bool)(k m:Int)(s:List Nat)(l:List Val)(hn:R64 n):Om CC 216 [.t (.int .i64 n),.t (.int .i64 e),.box 0 0] [.box [.t (.sl nl cl ([.int .u8 k,.int .i64 m,.str s]::l.map Val.c))]] =
  some (.val (.tup [.t (.agg [.int .u8 (DoS n e nl cl ⟨k,m,s⟩ l).1.k,.int .i64 (DoS n e nl cl ⟨k,m,s⟩ l).1.n,.str (DoS n e nl cl ⟨k,m,s⟩ l).1.s]),.t (.int .i64 (DoS n e nl cl ⟨k,m,s⟩ l).2)]),[.box [.t (.sl nl cl ([.int .u8 k,.int .i64 m,.str s]::l.map Val.c))]]):=by
 unfold DoS;rw[dif_pos hn];exact(zL8 n e nl cl ⟨k,m,s⟩ l hn).choose_spec.1
def yHQ(n e:Int)(nl cl:Bool)(v:Val)(l:List Val):VOK (DoS n e nl cl v l).1:=by
 unfold DoS;split
 ·rename_i h;exact(zL8 n e nl cl v l h).choose_spec.2
 exact yU
def zDA{α:Type}(a b:α)(l:List α):idx (a::b::l) 1=some b:=rfl
def zK0 (f g:Nat) (hbf:yY Tryz.prog f=true) (hbfp:∀x,CC.prim f x=none) (hbg:yY Tryz.prog g=true) (hbgp:∀x,CC.prim g x=none) (F G:Int→Int→Int×Int)
  (hf:∀x y,R64 x→R64 y→Om CC f [.t (.int .i64 x),.t (.int .i64 y)] []=some (.val (.tup [.t (.int .i64 (F x y).1),.t (.int .i64 (F x y).2)]),[]))
  (hg:∀x y,R64 x→R64 y→Om CC g [.t (.int .i64 x),.t (.int .i64 y)] []=some (.val (.tup [.t (.int .i64 (G x y).1),.t (.int .i64 (G x y).2)]),[]))
  (hfr:∀x y,R64 (F x y).1) (hgr:∀x y,R64 (G x y).1) (a b:Val) (ha:R64 a.n) (hb:R64 b.n) :
  ∃x:Val×Int,Om CC 174 [.t (.agg [.int .u8 a.k,.int .i64 a.n,.str a.s]),.t (.agg [.int .u8 b.k,.int .i64 b.n,.str b.s]),.t (.fn f),.t (.fn g)] [] =
   some (.val (.tup [.t (.agg [.int .u8 x.1.k,.int .i64 x.1.n,.str x.1.s]),.t (.int .i64 x.2)]),[])∧VOK x.1:=by
 refine zH zZ4 rfl ?_
 (have F_:=c5 zF zE zD zC (c5 zQ xV zH5 yEp (c3 zUD yCS (c2 @uZ @zDA)));show W CC 0 54 (zA 174) _ ⟨[(0,_),(1,_),(2,_),(3,_)],[]⟩ _)
 obtain⟨⟨anl,acl,out,null,e⟩,hal,hlen,hok⟩:=zMv [a,b] false false (by simp) (fun v hv=>by
  rcases List.mem_cons.1 hv with rfl|hv
  ·exact ha
  rw[List.mem_singleton.1 hv];exact hb)
 dsimp only at hal hlen hok;simp only[List.map_cons,List.map_nil,Val.c] at hal;clear ha hb;cases null with
 |true =>
  clear hf hg hfr hgr hlen hok
  (repeat' first|refine gA ?_|refine gT ?_ ?_<;>intro hv<;>try cases hv;done|fail)
  all_goals refine aM ?_<;>exact⟨(⟨0,0,[]⟩,_),⟨rfl,rfl⟩,yU⟩
 |false =>
  by_cases he:e=0
  ·subst he;have h2:=hlen rfl rfl;obtain⟨x,y,rfl⟩:∃x y,out=[x,y]:=by
    match out,h2 with
    |[x,y],_=>exact⟨x,y,rfl⟩
   have hx:R64 x.n:=(hok x (by simp)).1;have hy:R64 y.n:=(hok y (by simp)).1;simp only[List.map_cons,List.map_nil,Val.c] at hal;have hf':=hf x.n y.n hx hy;have hg':=hg x.n y.n hx hy;have hs1:∀(n e:Int) (nl cl:Bool) (hn:R64 n),Om CC 216 [.t (.int .i64 n),.t (.int .i64 e),.box 0 0] [.box [.t (.sl nl cl [[.int .u8 x.k,.int .i64 x.n,.str x.s],[.int .u8 y.k,.int .i64 y.n,.str y.s]])]]=_:=fun n e nl cl hn=>yD8 n e nl cl x.k x.n x.s [y] hn
   have hf1:=hs1 _ (F x.n y.n).2 anl acl (hfr x.n y.n);have hg1:=hs1 _ (G x.n y.n).2 anl acl (hgr x.n y.n);simp only[List.map_cons,List.map_nil,Val.c] at hf1 hg1;clear hf hg hlen hok hs1 hfr hgr hx hy h2
   (repeat' first|refine gA ?_|refine gT ?_ ?_<;>intro hv<;>try cases hv;done|fail)
   all_goals refine aM ?_<;>exact⟨(⟨_,_,_⟩,_),⟨rfl,rfl⟩,yHQ _ _ _ _ _ _⟩
  have hne:(e != 0)=true:=by simpa using he
  clear hf hg hfr hgr hlen hok
  (repeat' first|refine gA ?_|refine gT ?_ ?_<;>intro hv<;>try cases hv;done|fail)
  all_goals refine aM ?_<;>exact⟨(⟨0,0,[]⟩,_),⟨rfl,rfl⟩,yU⟩
def zJ4(a b:Val)(ha:R64 a.n)(hb:R64 b.n):∃x:Val×Int,Om CC 174 [.t (.agg [.int .u8 a.k,.int .i64 a.n,.str a.s]),.t (.agg [.int .u8 b.k,.int .i64 b.n,.str b.s]),.t (.fn 175),.t (.fn 175)] []=some (.val (.tup [.t (.agg [.int .u8 (x).1.k,.int .i64 (x).1.n,.str (x).1.s]),.t (.int .i64 (x).2)]),[])∧VOK x.1 :=
 zK0 _ _ zTw (fun x=>yA _ x (by decide)) zTw (fun x=>yA _ x (by decide)) NAdd NAdd (fun x y _ hy=>zQq x y) (fun x y _ hy=>zQq x y) zTF zTF a b ha hb
open Classical in
noncomputable def zFx(a b:Val):Val×Int:=if h:R64 a.n∧R64 b.n then (zJ4 a b h.1 h.2).choose else (Zero,0)
def zWg(k n:Int)(s:List Nat)(k' n':Int)(s':List Nat)(h:R64 n)(h':R64 n'):Om CC 174 [.t (.agg [.int .u8 k,.int .i64 n,.str s]),.t (.agg [.int .u8 k',.int .i64 n',.str s']),.t (.fn 175),.t (.fn 175)] []=some (.val (.tup [.t (.agg [.int .u8 (zFx ⟨k,n,s⟩ ⟨k',n',s'⟩).1.k,.int .i64 (zFx ⟨k,n,s⟩ ⟨k',n',s'⟩).1.n,.str (zFx ⟨k,n,s⟩ ⟨k',n',s'⟩).1.s]),.t (.int .i64 (zFx ⟨k,n,s⟩ ⟨k',n',s'⟩).2)]),[]):=by
 unfold zFx;have hh:R64 (⟨k,n,s⟩:Val).n∧R64 (⟨k',n',s'⟩:Val).n:=⟨h,h'⟩
 rw[dif_pos hh];exact(zJ4 ⟨k,n,s⟩ ⟨k',n',s'⟩ h h').choose_spec.1
def zXz(a b:Val):VOK (zFx a b).1:=by
 unfold zFx;split
 ·rename_i h;exact(zJ4 a b h.1 h.2).choose_spec.2
 exact yU
def zV9(a b:Val)(ha:R64 a.n)(hb:R64 b.n):∃x:Val×Int,Om CC 129 [.t (.agg [.int .u8 a.k,.int .i64 a.n,.str a.s]),.t (.agg [.int .u8 b.k,.int .i64 b.n,.str b.s])] []=some (.val (.tup [.t (.agg [.int .u8 (x).1.k,.int .i64 (x).1.n,.str (x).1.s]),.t (.int .i64 (x).2)]),[])∧VOK x.1:=by
 refine zH zZL rfl ?_
 (have F_:=c5 zF zE zD zC (c3 zH5 yEY (c2 zKi @zWg));show W CC 0 11 (zA 129) _ ⟨[(0,_),(1,_)],[]⟩ _)
 (repeat' first|refine gA ?_|refine gT ?_ ?_<;>intro hv<;>try cases hv;done|fail)
 all_goals refine aM ?_<;>exact⟨zFx a b,⟨rfl,rfl⟩,zXz a b⟩
def zJG(a b:Val)(ha:R64 a.n)(hb:R64 b.n):∃x:Val×Int,Om CC 174 [.t (.agg [.int .u8 a.k,.int .i64 a.n,.str a.s]),.t (.agg [.int .u8 b.k,.int .i64 b.n,.str b.s]),.t (.fn 176),.t (.fn 176)] []=some (.val (.tup [.t (.agg [.int .u8 (x).1.k,.int .i64 (x).1.n,.str (x).1.s]),.t (.int .i64 (x).2)]),[])∧VOK x.1 :=
 zK0 _ _ zUd (fun x=>yA _ x (by decide)) zUd (fun x=>yA _ x (by decide)) NSub NSub (fun x y _ hy=>zPT x y) (fun x y _ hy=>zPT x y) zTl zTl a b ha hb
open Classical in
noncomputable def zFJ(a b:Val):Val×Int:=if h:R64 a.n∧R64 b.n then (zJG a b h.1 h.2).choose else (Zero,0)
def zVW(k n:Int)(s:List Nat)(k' n':Int)(s':List Nat)(h:R64 n)(h':R64 n'):Om CC 174 [.t (.agg [.int .u8 k,.int .i64 n,.str s]),.t (.agg [.int .u8 k',.int .i64 n',.str s']),.t (.fn 176),.t (.fn 176)] []=some (.val (.tup [.t (.agg [.int .u8 (zFJ ⟨k,n,s⟩ ⟨k',n',s'⟩).1.k,.int .i64 (zFJ ⟨k,n,s⟩ ⟨k',n',s'⟩).1.n,.str (zFJ ⟨k,n,s⟩ ⟨k',n',s'⟩).1.s]),.t (.int .i64 (zFJ ⟨k,n,s⟩ ⟨k',n',s'⟩).2)]),[]):=by
 unfold zFJ;have hh:R64 (⟨k,n,s⟩:Val).n∧R64 (⟨k',n',s'⟩:Val).n:=⟨h,h'⟩
 rw[dif_pos hh];exact(zJG ⟨k,n,s⟩ ⟨k',n',s'⟩ h h').choose_spec.1
def zYW(a b:Val):VOK (zFJ a b).1:=by
 unfold zFJ;split
 ·rename_i h;exact(zJG a b h.1 h.2).choose_spec.2
 exact yU
def zHk(a b:Val)(ha:R64 a.n)(hb:R64 b.n):∃x:Val×Int,Om CC 130 [.t (.agg [.int .u8 a.k,.int .i64 a.n,.str a.s]),.t (.agg [.int .u8 b.k,.int .i64 b.n,.str b.s])] []=some (.val (.tup [.t (.agg [.int .u8 (x).1.k,.int .i64 (x).1.n,.str (x).1.s]),.t (.int .i64 (x).2)]),[])∧VOK x.1:=by
 refine zH zZ9 rfl ?_
 (have F_:=c5 zF zE zD zC (c3 zH5 yBW (c2 zKi @zVW));show W CC 0 11 (zA 130) _ ⟨[(0,_),(1,_)],[]⟩ _)
 (repeat' first|refine gA ?_|refine gT ?_ ?_<;>intro hv<;>try cases hv;done|fail)
 all_goals refine aM ?_<;>exact⟨zFJ a b,⟨rfl,rfl⟩,zYW a b⟩
open Classical in
noncomputable def VSub(a b:Val):Val×Int:=if h:R64 a.n∧R64 b.n then (zHk a b h.1 h.2).choose else (Zero,0)
def zXy(k n:Int)(s:List Nat)(k' n':Int)(s':List Nat)(h:R64 n)(h':R64 n'):Om CC 130 [.t (.agg [.int .u8 k,.int .i64 n,.str s]),.t (.agg [.int .u8 k',.int .i64 n',.str s'])] []=some (.val (.tup [.t (.agg [.int .u8 (VSub ⟨k,n,s⟩ ⟨k',n',s'⟩).1.k,.int .i64 (VSub ⟨k,n,s⟩ ⟨k',n',s'⟩).1.n,.str (VSub ⟨k,n,s⟩ ⟨k',n',s'⟩).1.s]),.t (.int .i64 (VSub ⟨k,n,s⟩ ⟨k',n',s'⟩).2)]),[]):=by
 unfold VSub;have hh:R64 (⟨k,n,s⟩:Val).n∧R64 (⟨k',n',s'⟩:Val).n:=⟨h,h'⟩
 rw[dif_pos hh];exact(zHk ⟨k,n,s⟩ ⟨k',n',s'⟩ h h').choose_spec.1
def yEE(a b:Val):VOK (VSub a b).1:=by
 unfold VSub;split
 ·rename_i h;exact(zHk a b h.1 h.2).choose_spec.2
 exact yU
def zJr(a b:Val)(ha:R64 a.n)(hb:R64 b.n):∃x:Val×Int,Om CC 174 [.t (.agg [.int .u8 a.k,.int .i64 a.n,.str a.s]),.t (.agg [.int .u8 b.k,.int .i64 b.n,.str b.s]),.t (.fn 177),.t (.fn 178)] []=some (.val (.tup [.t (.agg [.int .u8 (x).1.k,.int .i64 (x).1.n,.str (x).1.s]),.t (.int .i64 (x).2)]),[])∧VOK x.1 :=
 zK0 _ _ zR2 (fun x=>yA _ x (by decide)) yGB (fun x=>yA _ x (by decide)) NMul zID (fun x y _ hy=>zPL x y) (fun x y _ hy=>zRg x y) zS2 zR7 a b ha hb
open Classical in
noncomputable def zFI(a b:Val):Val×Int:=if h:R64 a.n∧R64 b.n then (zJr a b h.1 h.2).choose else (Zero,0)
def zV4(k n:Int)(s:List Nat)(k' n':Int)(s':List Nat)(h:R64 n)(h':R64 n'):Om CC 174 [.t (.agg [.int .u8 k,.int .i64 n,.str s]),.t (.agg [.int .u8 k',.int .i64 n',.str s']),.t (.fn 177),.t (.fn 178)] []=some (.val (.tup [.t (.agg [.int .u8 (zFI ⟨k,n,s⟩ ⟨k',n',s'⟩).1.k,.int .i64 (zFI ⟨k,n,s⟩ ⟨k',n',s'⟩).1.n,.str (zFI ⟨k,n,s⟩ ⟨k',n',s'⟩).1.s]),.t (.int .i64 (zFI ⟨k,n,s⟩ ⟨k',n',s'⟩).2)]),[]):=by
 unfold zFI;have hh:R64 (⟨k,n,s⟩:Val).n∧R64 (⟨k',n',s'⟩:Val).n:=⟨h,h'⟩
 rw[dif_pos hh];exact(zJr ⟨k,n,s⟩ ⟨k',n',s'⟩ h h').choose_spec.1
def zYX(a b:Val):VOK (zFI a b).1:=by
 unfold zFI;split
 ·rename_i h;exact(zJr a b h.1 h.2).choose_spec.2
 exact yU
def zVL(a b:Val)(ha:R64 a.n)(hb:R64 b.n):∃x:Val×Int,Om CC 131 [.t (.agg [.int .u8 a.k,.int .i64 a.n,.str a.s]),.t (.agg [.int .u8 b.k,.int .i64 b.n,.str b.s])] []=some (.val (.tup [.t (.agg [.int .u8 (x).1.k,.int .i64 (x).1.n,.str (x).1.s]),.t (.int .i64 (x).2)]),[])∧VOK x.1:=by
 refine zH zZ0 rfl ?_
 (have F_:=c5 zF zE zD zC (c3 zH5 yBV (c2 zKi @zV4));show W CC 0 11 (zA 131) _ ⟨[(0,_),(1,_)],[]⟩ _)
 (repeat' first|refine gA ?_|refine gT ?_ ?_<;>intro hv<;>try cases hv;done|fail)
 all_goals refine aM ?_<;>exact⟨zFI a b,⟨rfl,rfl⟩,zYX a b⟩
def zJZ(a b:Val)(ha:R64 a.n)(hb:R64 b.n):∃x:Val×Int,Om CC 174 [.t (.agg [.int .u8 a.k,.int .i64 a.n,.str a.s]),.t (.agg [.int .u8 b.k,.int .i64 b.n,.str b.s]),.t (.fn 179),.t (.fn 180)] []=some (.val (.tup [.t (.agg [.int .u8 (x).1.k,.int .i64 (x).1.n,.str (x).1.s]),.t (.int .i64 (x).2)]),[])∧VOK x.1 :=
 zK0 _ _ yDK (fun x=>yA _ x (by decide)) yBN (fun x=>yA _ x (by decide)) NQuo zIC (fun x y _ hy=>zXB x y hy) (fun x y _ hy=>zRC x y) yDH zSk a b ha hb
open Classical in
noncomputable def zFk(a b:Val):Val×Int:=if h:R64 a.n∧R64 b.n then (zJZ a b h.1 h.2).choose else (Zero,0)
def zVH(k n:Int)(s:List Nat)(k' n':Int)(s':List Nat)(h:R64 n)(h':R64 n'):Om CC 174 [.t (.agg [.int .u8 k,.int .i64 n,.str s]),.t (.agg [.int .u8 k',.int .i64 n',.str s']),.t (.fn 179),.t (.fn 180)] []=some (.val (.tup [.t (.agg [.int .u8 (zFk ⟨k,n,s⟩ ⟨k',n',s'⟩).1.k,.int .i64 (zFk ⟨k,n,s⟩ ⟨k',n',s'⟩).1.n,.str (zFk ⟨k,n,s⟩ ⟨k',n',s'⟩).1.s]),.t (.int .i64 (zFk ⟨k,n,s⟩ ⟨k',n',s'⟩).2)]),[]):=by
 unfold zFk;have hh:R64 (⟨k,n,s⟩:Val).n∧R64 (⟨k',n',s'⟩:Val).n:=⟨h,h'⟩
 rw[dif_pos hh];exact(zJZ ⟨k,n,s⟩ ⟨k',n',s'⟩ h h').choose_spec.1
def zXD(a b:Val):VOK (zFk a b).1:=by
 unfold zFk;split
 ·rename_i h;exact(zJZ a b h.1 h.2).choose_spec.2
 exact yU
def zVp(a b:Val)(ha:R64 a.n)(hb:R64 b.n):∃x:Val×Int,Om CC 132 [.t (.agg [.int .u8 a.k,.int .i64 a.n,.str a.s]),.t (.agg [.int .u8 b.k,.int .i64 b.n,.str b.s])] []=some (.val (.tup [.t (.agg [.int .u8 (x).1.k,.int .i64 (x).1.n,.str (x).1.s]),.t (.int .i64 (x).2)]),[])∧VOK x.1:=by
 refine zH zYt rfl ?_
 (have F_:=c5 zF zE zD zC (c3 zH5 yBL (c2 zKi @zVH));show W CC 0 11 (zA 132) _ ⟨[(0,_),(1,_)],[]⟩ _)
 (repeat' first|refine gA ?_|refine gT ?_ ?_<;>intro hv<;>try cases hv;done|fail)
 all_goals refine aM ?_<;>exact⟨zFk a b,⟨rfl,rfl⟩,zXD a b⟩
def zJo(a:Val)(ha:R64 a.n):∃x:Val×Int,Om CC 136 [.t (.agg [.int .u8 a.k,.int .i64 a.n,.str a.s])] []=some (.val (.tup [.t (.agg [.int .u8 (x).1.k,.int .i64 (x).1.n,.str (x).1.s]),.t (.int .i64 (x).2)]),[])∧VOK x.1:=by
 refine zH zZP rfl ?_
 (have F_:=c5 zF zE zD zC (c3 yFy zUp (c2 @zXy @vU));show W CC 0 13 (zA 136) _ ⟨[(0,_)],[]⟩ _)
 (repeat' first|refine gA ?_|refine gT ?_ ?_<;>intro hv<;>try cases hv;done|fail)
 all_goals refine aM ?_<;>exact⟨VSub ⟨_,_,_⟩ a,⟨rfl,rfl⟩,yEE _ a⟩
open Classical in
noncomputable def VNeg(a:Val):Val×Int:=if h:R64 a.n then (zJo a h).choose else (Zero,0)
def zP9(k n:Int)(s:List Nat)(h:R64 n):Om CC 136 [.t (.agg [.int .u8 k,.int .i64 n,.str s])] []=some (.val (.tup [.t (.agg [.int .u8 (VNeg ⟨k,n,s⟩).1.k,.int .i64 (VNeg ⟨k,n,s⟩).1.n,.str (VNeg ⟨k,n,s⟩).1.s]),.t (.int .i64 (VNeg ⟨k,n,s⟩).2)]),[]):=by
 unfold VNeg;have hh:R64 (⟨k,n,s⟩:Val).n:=h;rw[dif_pos hh];exact(zJo ⟨k,n,s⟩ h).choose_spec.1
def zTY(a:Val):VOK (VNeg a).1:=by
 unfold VNeg;split
 ·rename_i h;exact(zJo a h).choose_spec.2
 exact yU
def zM5(c:Int)(l:List Val)(nl cl:Bool)(hl:l.length<4294967295)(hr:∀v ∈ l,R64 v.n):∃x:Val×Int,Om CC 181 [.t (.int .i64 c),.t (.sl nl cl (l.map Val.c))] []=some (.val (.tup [.t (.agg [.int .u8 (x).1.k,.int .i64 (x).1.n,.str (x).1.s]),.t (.int .i64 (x).2)]),[])∧VOK x.1:=by
 refine zH zZu rfl ?_
 (have F_:=c5 zF zG zE zD (c5 zC zQ xV yFZ (c3 zUD zUv (c2 @uZ @zMX)));show W CC 0 49 (zA 181) _ ⟨[(0,_),(1,_)],[]⟩ _)
 obtain⟨⟨anl,acl,out,null,e⟩,hal,hlen,hok⟩:=zMv l nl cl hl hr;dsimp only at hal hlen hok;clear hr;cases null with
 |true =>
  clear hlen hok
  (repeat' first|refine gA ?_|refine gT ?_ ?_<;>intro hv<;>try cases hv;done|fail)
  all_goals refine aM ?_<;>exact⟨(⟨0,0,[]⟩,_),⟨rfl,rfl⟩,yU⟩
 |false =>
  by_cases he:e=0
  ·subst he;have h2:=hlen rfl rfl;clear hlen;cases out with
   |nil =>
    simp only[List.map_nil] at hal;clear hok h2
    (repeat' first|refine gA ?_|refine gT ?_ ?_<;>intro hv<;>try cases hv;done|fail)
    all_goals refine aM ?_<;>exact⟨(⟨0,0,[]⟩,_),⟨rfl,rfl⟩,yU⟩
   |cons v0 rest =>
    have hlr:rest.length+1<4294967295:=by simp at h2;omega
    have hne:(((rest.length+1:Nat):Int)==0)=false:=by simp;omega
    have h0:=hok v0 (by simp);clear h2;simp only[List.map_cons] at hal
    (repeat' first|refine gA ?_|refine gT ?_ ?_<;>intro hv<;>try cases hv;done|fail)
    refine zW (α:=Nat×Val) (fun a=>⟨[(0,.t (.int .i64 c)),(4,.box 0 0),(9,.box 1 0),(33,.t (.sl anl acl ((v0::rest).map Val.c))),(34,.t (.int .i64 (rest.length+1:Nat))),(35,.t (.int .i64 a.1))],[.box (Zero.c.map .t),.box (a.2.c.map .t)]⟩)
     (fun a=>rest.length+1 - a.1) (fun a=>a.1≤rest.length+1∧VOK a.2) (0,v0) (by kernel_rfl) ⟨Nat.zero_le _,h0⟩ ?_
    clear hal hne h0;rintro⟨i,o⟩ ⟨hi,ho⟩
    try dsimp only at hi ho
    by_cases hi':i<rest.length+1
    ·have hw:=wI64 i (by omega);have hi2:i<(v0::rest).length:=by simpa using hi'
     have he:(v0::rest)[i]?=some (v0::rest)[i]:=List.getElem?_eq_getElem hi2;have hd:decide ((i:Int)<((rest.length+1:Nat):Int))=true:=by simp;omega
     have hv0:=hok (v0::rest)[i] (List.getElem_mem hi2);generalize (v0::rest)[i]=v at he hv0;generalize hL:v0::rest=L at *;clear hok;simp only[Zero]
     (repeat' first|refine gA ?_|refine gT ?_ ?_<;>intro hv<;>try cases hv;done|fail)
     all_goals (refine zB (i+1,⟨_,_,_⟩) (by first|omega|(dsimp only;omega)) ⟨by first|omega|(dsimp only;omega),?_⟩ (by exact aTd);first|exact hv0|exact ho)
    have hd:decide ((i:Int)<((rest.length+1:Nat):Int))=false:=by simp;omega
    simp only[Zero];clear hok
    (repeat' first|refine gA ?_|refine gT ?_ ?_<;>intro hv<;>try cases hv;done|fail)
    (refine aM ?_)
    exact⟨(o,0),⟨rfl,rfl⟩,ho⟩
  have hne:(e != 0)=true:=by simpa using he
  clear hlen hok
  (repeat' first|refine gA ?_|refine gT ?_ ?_<;>intro hv<;>try cases hv;done|fail)
  all_goals refine aM ?_<;>exact⟨(⟨0,0,[]⟩,_),⟨rfl,rfl⟩,yU⟩
def zRp(l:List Val)(nl cl:Bool)(hl:l.length<4294967295)(hr:∀v ∈ l,R64 v.n):∃x:Val×Int,Om CC 138 [.t (.sl nl cl (l.map Val.c))] []=some (.val (.tup [.t (.agg [.int .u8 (x).1.k,.int .i64 (x).1.n,.str (x).1.s]),.t (.int .i64 (x).2)]),[])∧VOK x.1:=by
 refine zH zZN rfl ?_
 (have F_:=c5 zF zG zE zD (c3 zC xV (c2 yCB zT6));show W CC 0 8 (zA 138) _ ⟨[(0,_)],[]⟩ _)
 obtain⟨x,hx,hp⟩:=zM5 (-1) l nl cl hl hr;clear hr
 (repeat' first|refine gA ?_|refine gT ?_ ?_<;>intro hv<;>try cases hv;done|fail)
 all_goals refine aM ?_<;>exact⟨x,⟨rfl,rfl⟩,hp⟩
def zR5(l:List Val)(nl cl:Bool)(hl:l.length<4294967295)(hr:∀v ∈ l,R64 v.n):∃x:Val×Int,Om CC 140 [.t (.sl nl cl (l.map Val.c))] []=some (.val (.tup [.t (.agg [.int .u8 (x).1.k,.int .i64 (x).1.n,.str (x).1.s]),.t (.int .i64 (x).2)]),[])∧VOK x.1:=by
 refine zH zZy rfl ?_
 (have F_:=c5 zF zG zE zD (c3 zC xV (c2 yC6 zT6));show W CC 0 8 (zA 140) _ ⟨[(0,_)],[]⟩ _)
 obtain⟨x,hx,hp⟩:=zM5 1 l nl cl hl hr;clear hr
 (repeat' first|refine gA ?_|refine gT ?_ ?_<;>intro hv<;>try cases hv;done|fail)
 all_goals refine aM ?_<;>exact⟨x,⟨rfl,rfl⟩,hp⟩
end Go.Ab
