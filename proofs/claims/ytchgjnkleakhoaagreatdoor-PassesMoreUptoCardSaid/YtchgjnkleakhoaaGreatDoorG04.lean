/- Lemmas. -/
import Derived.Test.YtchgjnkleakhoaaGreatDoorG02
set_option maxRecDepth 1000000
set_option maxHeartbeats 40000000
set_option linter.all false
namespace Go.Ab
structure Tok where
 k:Int
 s:List Nat
 v:Val
 line:Int
 col:Int
def Tok.c(t:Tok):List Tree:=[.int .u8 t.k,.str t.s,.int .u8 t.v.k,.int .i64 t.v.n,.str t.v.s,.int .i64 t.line,.int .i64 t.col]
def Tok.b(t:Tok):Int×List Nat×Val:=(t.k,t.s,t.v)
def isW(l:List Tok)(i:Nat)(w:List Nat):Bool :=
 match l[i]? with
 |some t=>(t.k==1||t.k==7)&&t.s==w
 |none=>false
def plW(l:List Tok)(i:Nat):Int×Int :=
 match l[i]? with
 |some t=>(t.line,t.col)
 |none=>(0,0)
inductive RX where
 |ok (i at_ deep:Nat) (T:List Node)
 |pan (e:Int) (at_ deep:Nat) (T:List Node)
def opsX:Nat→List (List Nat×Int)
 |0=>[([111,114],4)]
 |1=>[([97,110,100],5)]
 |3=>[([61],7),([60,62],8),([60],9),([60,61],10),([62],11),([62,61],12)]
 |4=>[([43],13),([45],14)]
 |5=>[([42],15),([47],16)]
 |_=>[]
def zFR(n:Nat):Bool:=n != 3
def yG(l:List Tok)(i:Nat):List (List Nat×Int)→Int
 |[]=>0
 |o::os=>if isW l i o.1 then o.2 else yG l i os
def jZ:List (List Nat×(Int×Nat×Nat)) :=
 [([97,98,115],18,1,1),([109,105,110],19,1,8),([109,97,120],20,1,8),([109,111,100],21,2,2),([108,101,110,103,116,104],22,1,1),
  ([117,112,112,101,114],23,1,1),([99,111,110,116,97,105,110,115],24,2,2),([115,116,97,114,116,115],25,2,2),([105,102],26,3,3)]
def zB8:List (List Nat×Val) :=
 [([116,114,117,101],⟨4,1,[]⟩),([102,97,108,115,101],⟨4,0,[]⟩),([110,117,108,108],⟨0,0,[]⟩)]
def wV{α:Type}(w:List Nat):List (List Nat×α)→Option α
 |[]=>none
 |e::es=>if e.1=w then some e.2 else wV w es
def xK(op:Int)(v:Val)(name:List Nat)(kids:List Int)(p:Int×Int):Node :=
 ⟨op,v,name,if kids=[] then ⟨true,true,[]⟩ else ⟨false,false,kids⟩,p.1,p.2⟩
def VZ:Val:=⟨0,0,[]⟩
def wX(n:Nat):List Nat:=if n=2 then [110,111,116] else [45]
def oX(n:Nat):Int:=if n=2 then 6 else 17
inductive Cmd where
 |lev (n:Nat)
 |row (n a:Nat)
 |call (op:Int) (least most:Nat) (kids:List Int) (p:Int×Int)
def PX(l:List Tok):Nat→Cmd→Nat→Nat→List Node→Option RX
 |0,_,_,_,_=>none
 |f+1,.lev n,i,d,T =>
  if n=2∨n=6 then
   if isW l i (wX n) then
    if d=12 then some (.pan 12 i d T) else
    match PX l f (.lev n) (i+1) (d+1) T with
    |some (.ok a i' d' T')=>some (.ok T'.length i' (d' - 1) (T'++[xK (oX n) VZ [] [(a:Int)] (plW l i)]))
    |r=>r
   else PX l f (.lev (n+1)) i d T
  else if n<7 then
   match PX l f (.lev (n+1)) i d T with
   |some (.ok a i' d' T')=>PX l f (.row n a) i' d' T'
   |r=>r
  else
   match l[i]? with
   |none=>some (.pan 4 i d T)
   |some t =>
    if t.k=4∨t.k=5∨t.k=6 then some (.ok T.length (i+1) d (T++[xK 1 t.v [] [] (t.line,t.col)]))
    else if t.k=2 then some (.ok T.length (i+1) d (T++[xK 2 VZ t.s [] (t.line,t.col)]))
    else if t.k=3 then some (.ok T.length (i+1) d (T++[xK 3 VZ [] [] (t.line,t.col)]))
    else if t.k=1 then
     match wV t.s jZ with
     |some (op,least,most) =>
      if isW l (i+1) [40] then
       if d=12 then some (.pan 12 (i+1) d T) else PX l f (.call op least most [] (t.line,t.col)) (i+2) (d+1) T
      else some (.pan 4 (i+1) d T)
     |none=>match wV t.s zB8 with
      |some v=>some (.ok T.length (i+1) d (T++[xK 1 v [] [] (t.line,t.col)]))
      |none=>some (.pan 4 i d T)
    else
     if isW l i [40] then
      if d=12 then some (.pan 12 i d T) else
      match PX l f (.lev 0) (i+1) (d+1) T with
      |some (.ok a i' d' T')=>if isW l i' [41] then some (.ok a (i'+1) (d' - 1) T') else some (.pan 4 i' d' T')
      |r=>r
     else some (.pan 4 i d T)
 |f+1,.row n a,i,d,T =>
  if yG l i (opsX n)=0 then some (.ok a i d T) else
  match PX l f (.lev (n+1)) (i+1) d T with
  |some (.ok b i' d' T') =>
   if zFR n then PX l f (.row n T'.length) i' d' (T'++[xK (yG l i (opsX n)) VZ [] [(a:Int),(b:Int)] (plW l i)])
   else some (.ok T'.length i' d' (T'++[xK (yG l i (opsX n)) VZ [] [(a:Int),(b:Int)] (plW l i)]))
  |r=>r
 |f+1,.call op least most kids p,i,d,T =>
  match PX l f (.lev 0) i d T with
  |some (.ok a i' d' T') =>
   if (isW l i' [44]&&(kids++[(a:Int)]).length==most)||(isW l i' [41]&&Nat.blt (kids++[(a:Int)]).length least) then some (.pan 14 i' d' T')
   else if isW l i' [44] then PX l f (.call op least most (kids++[(a:Int)]) p) (i'+1) d' T'
   else if isW l i' [41] then some (.ok T'.length (i'+1) (d' - 1) (T'++[xK op VZ [] (kids++[(a:Int)]) p]))
   else some (.pan 4 i' d' T')
  |r=>r
def Cmd.dt(d:Nat):Cmd→Nat
 |.call _ _ _ _ _=>d - 1
 |_=>d
def Cmd.pre(T:List Node):Cmd→Prop
 |.row _ a=>a<T.length
 |_=>True
def KX(l:List Tok)(c:Cmd)(i d:Nat)(T:List Node):RX→Prop
 |.ok a i' d' T'=>i≤i'∧i'≤l.length∧d'=c.dt d∧T'.length≤T.length+(i' - i)∧a<T'.length
 |.pan e i' d' T'=>i≤i'∧i'≤l.length∧d'≤12∧T'.length≤T.length+(i' - i)∧0<e∧e<256
def yBG{l:List Tok}{i d:Nat}{T:List Node}(n m:Nat)(r:RX):KX l (.lev n) i d T r↔KX l (.lev m) i d T r:=by cases r<;>exact Iff.rfl
def yA{l:List Tok}{i:Nat}{w:List Nat}(h:isW l i w=true):i<l.length:=by
 unfold isW at h;rcases Nat.lt_or_ge i l.length with h'|h'
 ·exact h'
 rw[List.getElem?_eq_none h'] at h;cases h
def zBB{l:List Tok}{i:Nat}:∀ {os:List (List Nat×Int)},yG l i os≠0→i<l.length
 |[],h=>by simp [yG] at h
 |o::os,h=>by
  unfold yG at h;split at h
  ·rename_i h';exact yA h'
  exact zBB h
def getElem?_lt{α:Type}{l:List α}{i:Nat}{a:α}(h:l[i]?=some a):i<l.length:=by
 rcases Nat.lt_or_ge i l.length with h'|h'
 ·exact h'
 rw[List.getElem?_eq_none h'] at h;cases h
def xO{l:List Tok}:∀(f:Nat) (c:Cmd) (i d:Nat) (T:List Node) (r:RX),PX l f c i d T=some r→i≤l.length→d≤12→c.pre T→KX l c i d T r
 |0,c,i,d,T,r,h,_,_,_=>by simp [PX] at h
 |f+1,.lev n,i,d,T,r,h,hi,hd,_=>by
  have ih:=xO (l:=l) f;rw[PX] at h;split at h
  ·split at h
   ·rename_i hw;have hlt:=yA hw;split at h
    ·cases h;exact⟨Nat.le_refl _,hi,hd,by omega,by decide,by decide⟩
    rename_i hd12;split at h
    ·rename_i a i' d' T' hh;cases h;obtain⟨h1,h2,h3,h4,h5⟩:=ih _ _ _ _ _ hh (by omega) (by omega) trivial;simp only[Cmd.dt] at h3;refine⟨by omega,h2,by simp only[Cmd.dt];omega,?_,?_⟩<;>simp only[List.length_append,List.length_cons,List.length_nil]<;>omega
    rename_i hne;cases r with
    |ok a i' d' T'=>exact absurd h (hne a i' d' T')
    |pan e i' d' T' =>
     obtain⟨h1,h2,h3,h4,h5⟩:=ih _ _ _ _ _ h (by omega) (by omega) trivial;exact⟨by omega,h2,h3,by omega,h5⟩
   exact(yBG (l:=l) (i:=i) (d:=d) (T:=T) n (n+1) r).2 (ih _ _ _ _ _ h hi hd trivial)
  split at h
  ·split at h
   ·rename_i a i' d' T' hh;obtain⟨h1,h2,h3,h4,h5⟩:=ih _ _ _ _ _ hh hi hd trivial;simp only[Cmd.dt] at h3;subst h3;have:=ih _ _ _ _ _ h h2 hd h5;cases r with
    |ok a' i'' d'' T''=>obtain⟨a1,a2,a3,a4,a5⟩:=this;exact⟨by omega,a2,a3,by omega,a5⟩
    |pan e i'' d'' T''=>obtain⟨a1,a2,a3,a4,a5⟩:=this;exact⟨by omega,a2,a3,by omega,a5⟩
   exact(by
    have:=ih _ _ _ _ _ h hi hd trivial;cases r with
    |ok a' i'' d'' T''=>exact this
    |pan e i'' d'' T''=>exact this)
  split at h
  ·cases h;exact⟨Nat.le_refl _,hi,hd,by omega,by decide,by decide⟩
  rename_i t ht;have hlt:=getElem?_lt ht;split at h
  ·cases h;refine⟨by omega,by omega,rfl,?_,?_⟩<;>simp only[List.length_append,List.length_cons,List.length_nil]<;>omega
  split at h
  ·cases h;refine⟨by omega,by omega,rfl,?_,?_⟩<;>simp only[List.length_append,List.length_cons,List.length_nil]<;>omega
  split at h
  ·cases h;refine⟨by omega,by omega,rfl,?_,?_⟩<;>simp only[List.length_append,List.length_cons,List.length_nil]<;>omega
  split at h
  ·split at h
   ·split at h
    ·rename_i hw;have hlt2:=yA hw;split at h
     ·cases h;exact⟨by omega,by omega,hd,by omega,by decide,by decide⟩
     rename_i hd12;have:=ih _ _ _ _ _ h (by omega) (by omega) trivial;cases r with
     |ok a' i'' d'' T''=>obtain⟨a1,a2,a3,a4,a5⟩:=this;simp only[Cmd.dt] at a3 ⊢;exact⟨by omega,a2,by simp only[Cmd.dt];omega,by omega,a5⟩
     |pan e i'' d'' T''=>obtain⟨a1,a2,a3,a4,a5⟩:=this;exact⟨by omega,a2,a3,by omega,a5⟩
    cases h;exact⟨by omega,by omega,hd,by omega,by decide,by decide⟩
   split at h
   ·cases h;refine⟨by omega,by omega,rfl,?_,?_⟩<;>simp only[List.length_append,List.length_cons,List.length_nil]<;>omega
   cases h;exact⟨Nat.le_refl _,hi,hd,by omega,by decide,by decide⟩
  split at h
  ·split at h
   ·cases h;exact⟨Nat.le_refl _,hi,hd,by omega,by decide,by decide⟩
   rename_i hd12;split at h
   ·rename_i a i' d' T' hh;obtain⟨h1,h2,h3,h4,h5⟩:=ih _ _ _ _ _ hh (by omega) (by omega) trivial;simp only[Cmd.dt] at h3;split at h
    ·rename_i hw2;have hlt2:=yA hw2;cases h;exact⟨by omega,by omega,by simp only[Cmd.dt];omega,by omega,h5⟩
    cases h;exact⟨by omega,h2,by omega,by omega,by decide,by decide⟩
   rename_i hne;cases r with
   |ok a i' d' T'=>exact absurd h (hne a i' d' T')
   |pan e i' d' T' =>
    obtain⟨h1,h2,h3,h4,h5⟩:=ih _ _ _ _ _ h (by omega) (by omega) trivial;exact⟨by omega,h2,h3,by omega,h5⟩
  cases h;exact⟨Nat.le_refl _,hi,hd,by omega,by decide,by decide⟩
 |f+1,.row n a,i,d,T,r,h,hi,hd,ha=>by
  have ih:=xO (l:=l) f;rw[PX] at h;split at h
  ·cases h;exact⟨Nat.le_refl _,hi,rfl,by omega,ha⟩
  rename_i ho;have hlt:=zBB ho;split at h
  ·rename_i b i' d' T' hh;obtain⟨h1,h2,h3,h4,h5⟩:=ih _ _ _ _ _ hh (by omega) hd trivial;simp only[Cmd.dt] at h3;subst h3;split at h
   ·have:=ih _ _ _ _ _ h h2 hd (by simp [Cmd.pre]);cases r with
    |ok a' i'' d'' T''=>obtain⟨a1,a2,a3,a4,a5⟩:=this;simp only[List.length_append,List.length_cons,List.length_nil] at a4;exact⟨by omega,a2,a3,by omega,a5⟩
    |pan e i'' d'' T''=>obtain⟨a1,a2,a3,a4,a5⟩:=this;simp only[List.length_append,List.length_cons,List.length_nil] at a4;exact⟨by omega,a2,a3,by omega,a5⟩
   cases h;refine⟨by omega,h2,rfl,?_,?_⟩<;>simp only[List.length_append,List.length_cons,List.length_nil]<;>omega
  rename_i hne;cases r with
  |ok a i' d' T'=>exact absurd h (hne a i' d' T')
  |pan e i' d' T' =>
   obtain⟨h1,h2,h3,h4,h5⟩:=ih _ _ _ _ _ h (by omega) (by omega) trivial;exact⟨by omega,h2,h3,by omega,h5⟩
 |f+1,.call op least most kids p,i,d,T,r,h,hi,hd,_=>by
  have ih:=xO (l:=l) f;rw[PX] at h;split at h
  ·rename_i a i' d' T' hh;obtain⟨h1,h2,h3,h4,h5⟩:=ih _ _ _ _ _ hh hi hd trivial;simp only[Cmd.dt] at h3;subst h3;split at h
   ·cases h;exact⟨h1,h2,hd,h4,by decide,by decide⟩
   split at h
   ·rename_i hw;have hlt:=yA hw;have:=ih _ _ _ _ _ h (by omega) hd trivial;cases r with
    |ok a' i'' d'' T''=>obtain⟨a1,a2,a3,a4,a5⟩:=this;exact⟨by omega,a2,a3,by omega,a5⟩
    |pan e i'' d'' T''=>obtain⟨a1,a2,a3,a4,a5⟩:=this;exact⟨by omega,a2,a3,by omega,a5⟩
   split at h
   ·rename_i hw;have hlt:=yA hw;cases h;refine⟨by omega,by omega,rfl,?_,?_⟩<;>simp only[List.length_append,List.length_cons,List.length_nil]<;>omega
   cases h;exact⟨h1,h2,hd,h4,by decide,by decide⟩
  rename_i hne;cases r with
  |ok a i' d' T'=>exact absurd h (hne a i' d' T')
  |pan e i' d' T' =>
   obtain⟨h1,h2,h3,h4,h5⟩:=ih _ _ _ _ _ h hi (by omega) trivial;exact⟨by omega,h2,h3,by omega,h5⟩
def Cmd.need(l:List Tok)(i:Nat):Cmd→Nat
 |.lev n=>16 * (l.length - i)+(8 - n)+1
 |.row _ _=>16 * (l.length - i)+1
 |.call _ _ _ _ _=>16 * (l.length - i)+10
def zHd{l:List Tok}:∀(f:Nat) (c:Cmd) (i d:Nat) (T:List Node),c.need l i≤f→i≤l.length→d≤12→c.pre T→∃r,PX l f c i d T=some r
 |0,c,i,d,T,h,_,_,_=>by cases c<;>simp [Cmd.need] at h
 |f+1,.lev n,i,d,T,h,hi,hd,_=>by
  have ih:=zHd (l:=l) f;have kp:=xO (l:=l) f;simp only[Cmd.need] at h;rw[PX];split
  ·rename_i hn;split
   ·rename_i hw;have hlt:=yA hw;split
    ·exact⟨_,rfl⟩
    obtain⟨r,hr⟩:=ih (.lev n) (i+1) (d+1) T (by simp only[Cmd.need];omega) (by omega) (by omega) trivial;rw[hr];cases r<;>exact⟨_,rfl⟩
   exact ih (.lev (n+1)) i d T (by simp only[Cmd.need];omega) hi hd trivial
  split
  ·rename_i hn;obtain⟨r,hr⟩:=ih (.lev (n+1)) i d T (by simp only[Cmd.need];omega) hi hd trivial;have hk:=kp _ _ _ _ _ hr hi hd trivial;rw[hr];cases r with
   |pan e i' d' T'=>exact⟨_,rfl⟩
   |ok a i' d' T' =>
    obtain⟨h1,h2,h3,h4,h5⟩:=hk;simp only[Cmd.dt] at h3;exact ih (.row n a) i' d' T' (by simp only[Cmd.need];omega) h2 (by omega) h5
  split
  ·exact⟨_,rfl⟩
  rename_i t ht;have hlt:=getElem?_lt ht;split
  ·exact⟨_,rfl⟩
  split
  ·exact⟨_,rfl⟩
  split
  ·exact⟨_,rfl⟩
  split
  ·split
   ·split
    ·rename_i hw;have hlt2:=yA hw;split
     ·exact⟨_,rfl⟩
     exact ih _ _ _ _ (by simp only[Cmd.need];omega) (by omega) (by omega) trivial
    exact⟨_,rfl⟩
   split<;>exact⟨_,rfl⟩
  split
  ·split
   ·exact⟨_,rfl⟩
   obtain⟨r,hr⟩:=ih (.lev 0) (i+1) (d+1) T (by simp only[Cmd.need];omega) (by omega) (by omega) trivial;rw[hr];cases r with
   |pan e i' d' T'=>exact⟨_,rfl⟩
   |ok a i' d' T'=>simp only;split<;>exact⟨_,rfl⟩
  exact⟨_,rfl⟩
 |f+1,.row n a,i,d,T,h,hi,hd,ha=>by
  have ih:=zHd (l:=l) f;have kp:=xO (l:=l) f;simp only[Cmd.need] at h;rw[PX];split
  ·exact⟨_,rfl⟩
  rename_i ho;have hlt:=zBB ho;obtain⟨r,hr⟩:=ih (.lev (n+1)) (i+1) d T (by simp only[Cmd.need];omega) (by omega) hd trivial;have hk:=kp _ _ _ _ _ hr (by omega) hd trivial;rw[hr];cases r with
  |pan e i' d' T'=>exact⟨_,rfl⟩
  |ok b i' d' T' =>
   obtain⟨h1,h2,h3,h4,h5⟩:=hk;simp only[Cmd.dt] at h3;simp only;split
   ·exact ih _ _ _ _ (by simp only[Cmd.need];omega) h2 (by omega) (by simp [Cmd.pre])
   exact⟨_,rfl⟩
 |f+1,.call op least most kids p,i,d,T,h,hi,hd,_=>by
  have ih:=zHd (l:=l) f;have kp:=xO (l:=l) f;simp only[Cmd.need] at h;rw[PX];obtain⟨r,hr⟩:=ih (.lev 0) i d T (by simp only[Cmd.need];omega) hi hd trivial;have hk:=kp _ _ _ _ _ hr hi hd trivial;rw[hr];cases r with
  |pan e i' d' T'=>exact⟨_,rfl⟩
  |ok a i' d' T' =>
   obtain⟨h1,h2,h3,h4,h5⟩:=hk;simp only[Cmd.dt] at h3;dsimp only;split
   ·exact⟨_,rfl⟩
   split
   ·rename_i hw;have hlt:=yA hw;exact ih _ _ _ _ (by simp only[Cmd.need];omega) (by omega) (by omega) trivial
   split<;>exact⟨_,rfl⟩
structure SNode where
 op:Int
 v:Val
 name:List Nat
 kids:List Int
 deriving DecidableEq
def Node.s(x:Node):SNode:=⟨x.op,x.v,x.name,x.kids.l⟩
def wJ(op:Int)(v:Val)(name:List Nat)(kids:List Int)(p:Int×Int):(xK op v name kids p).s=⟨op,v,name,kids⟩:=by
 unfold xK Node.s;split<;>simp_all
def SmW(l l':List Tok)(n0 δ:Nat):Prop:=∀j t,n0≤j→l[j]?=some t→∃t',l'[j+δ]?=some t'∧t'.b=t.b
def NoOp(l:List Tok)(i:Nat):Prop:=∀n,yG l i (opsX n)=0
def wM{l l':List Tok}{n0 δ i:Nat}(h:SmW l l' n0 δ)(hn:n0≤i)(hi:i<l.length)(w:List Nat):isW l' (i+δ) w=isW l i w:=by
 obtain⟨t',h1,h2⟩:=h i l[i] hn (List.getElem?_eq_getElem hi);simp only[Tok.b,Prod.mk.injEq] at h2;unfold isW;rw[h1,List.getElem?_eq_getElem hi];simp only[h2.1,h2.2.1]
def zKq{l l':List Tok}{n0 δ i:Nat}(h:SmW l l' n0 δ)(hn:n0≤i)(hi:i<l.length):∀os,yG l' (i+δ) os=yG l i os
 |[]=>rfl
 |o::os=>by unfold yG;rw[wM h hn hi,zKq h hn hi os]
def zGI{l:List Tok}:∀(f n i d:Nat) (T:List Node) (a i' d':Nat) (T':List Node),PX l f (.lev n) i d T=some (.ok a i' d' T')→i<l.length
 |0,n,i,d,T,a,i',d',T',h=>by simp [PX] at h
 |f+1,n,i,d,T,a,i',d',T',h=>by
  rw[PX] at h;split at h
  ·split at h
   ·rename_i hw;exact yA hw
   exact zGI f _ _ _ _ _ _ _ _ h
  split at h
  ·split at h
   ·rename_i hh;exact zGI f _ _ _ _ _ _ _ _ hh
   exact zGI f _ _ _ _ _ _ _ _ h
  split at h
  ·cases h
  rename_i t ht;exact getElem?_lt ht
inductive CSim:Cmd→Cmd→Prop
 |lev (n:Nat):CSim (.lev n) (.lev n)
 |row (n a:Nat):CSim (.row n a) (.row n a)
 |call (op:Int) (least most:Nat) (kids:List Int) (p q:Int×Int):CSim (.call op least most kids p) (.call op least most kids q)
def zCn{α β:Type}{f:α→β}{x y:List α}(h:x.map f=y.map f):x.length=y.length:=by
 have:=congrArg List.length h;simpa using this
def zIk{l l':List Tok}{n0 δ:Nat}(hs:SmW l l' n0 δ)(hno:NoOp l' (l.length+δ)):∀(f:Nat) (c c':Cmd) (i d:Nat) (T:List Node) (a i1 d1:Nat) (T1:List Node),
  PX l f c i d T=some (.ok a i1 d1 T1)→CSim c c'→n0≤i→i≤l.length→d≤12→c.pre T→∀(d':Nat) (T':List Node),d'≤d→T'.map Node.s=T.map Node.s →
  ∃d1' T1',PX l' f c' (i+δ) d' T'=some (.ok a (i1+δ) d1' T1')∧T1'.map Node.s=T1.map Node.s
 |0,c,c',i,d,T,a,i1,d1,T1,h,_,_,_,_,_,_,_,_,_=>by simp [PX] at h
 |f+1,.lev n,_,i,d,T,a,i1,d1,T1,h,.lev _,hn,hi,hd,_,d',T',hdd,hT=>by
  have ih:=zIk hs hno f;have kp:=xO (l:=l) f;have hlt:=zGI _ _ _ _ _ _ _ _ _ h;have w:=fun w=>wM hs hn hlt w
  have hlen:=zCn hT;rw[PX] at h ⊢;split at h
  ·rename_i hn26;rw[if_pos hn26,w];split at h
   ·rename_i hw;rw[if_pos hw];split at h
    ·cases h
    rename_i hd12;rw[if_neg (by omega:¬ d'=12)];split at h
    ·rename_i a0 i0 d0 T0 hh;cases h;obtain⟨d2,T2,h1,h2⟩:=ih _ _ _ _ _ _ _ _ _ hh (.lev n) (by omega) (by omega) (by omega) trivial (d'+1) T' (by omega) hT;rw[show i+δ+1=i+1+δ by omega,h1];refine⟨_,_,by(try dsimp only);rw[zCn h2],?_⟩;simp only[List.map_append,List.map_cons,List.map_nil,wJ,h2]
    rename_i hne;exact absurd h (hne _ _ _ _)
   rename_i hw;rw[if_neg hw];exact ih _ _ _ _ _ _ _ _ _ h (.lev _) hn hi hd trivial d' T' hdd hT
  rename_i hn26;rw[if_neg hn26];split at h
  ·rename_i hn7;rw[if_pos hn7];split at h
   ·rename_i a0 i0 d0 T0 hh;have hk:=kp _ _ _ _ _ hh hi hd trivial;obtain⟨k1,k2,k3,k4,k5⟩:=hk;simp only[Cmd.dt] at k3;obtain⟨d2,T2,h1,h2⟩:=ih _ _ _ _ _ _ _ _ _ hh (.lev _) hn hi hd trivial d' T' hdd hT;rw[h1];dsimp only;have hd2:d2=d':=by
     have:=xO (l:=l') f _ _ _ _ _ h1 (by
      obtain⟨t',ht',_⟩:=hs i l[i] hn (List.getElem?_eq_getElem hlt);have:=getElem?_lt ht';omega) (by omega) trivial
     exact this.2.2.1
    exact ih _ _ _ _ _ _ _ _ _ h (.row n a0) (by omega) k2 (by omega) k5 d2 T2 (by omega) h2
   rename_i hne;exact absurd h (hne _ _ _ _)
  rename_i hn7;rw[if_neg hn7];obtain⟨t',ht',hb⟩:=hs i l[i] hn (List.getElem?_eq_getElem hlt);simp only[Tok.b,Prod.mk.injEq] at hb;obtain⟨hk,hsx,hv⟩:=hb;rw[List.getElem?_eq_getElem hlt] at h;rw[ht'];dsimp only at h ⊢;rw[hk];split at h
  ·rename_i h0;rw[if_pos h0];cases h;refine⟨_,_,by rw[hlen,show i+δ+1=i+1+δ by omega],?_⟩;simp only[List.map_append,List.map_cons,List.map_nil,wJ,hT,hv]
  rename_i h0;rw[if_neg h0];split at h
  ·rename_i h0;rw[if_pos h0];cases h;refine⟨_,_,by rw[hlen,show i+δ+1=i+1+δ by omega],?_⟩;simp only[List.map_append,List.map_cons,List.map_nil,wJ,hT,hsx]
  rename_i h0;rw[if_neg h0];split at h
  ·rename_i h0;rw[if_pos h0];cases h;refine⟨_,_,by rw[hlen,show i+δ+1=i+1+δ by omega],?_⟩;simp only[List.map_append,List.map_cons,List.map_nil,wJ,hT]
  rename_i h0;rw[if_neg h0];split at h
  ·rename_i h0;rw[if_pos h0,hsx];split at h
   ·rename_i op least most hf
    try rw[hf]
    try dsimp only at h ⊢
    split at h
    ·rename_i hw;have hlt2:=yA hw;rw[show i+δ+1=i+1+δ by omega,wM hs (by omega) hlt2,if_pos hw];split at h
     ·cases h
     rename_i hd12;rw[if_neg (by omega:¬ d'=12),show i+δ+2=i+2+δ by omega];exact ih _ _ _ _ _ _ _ _ _ h (.call _ _ _ _ _ _) (by omega) (by omega) (by omega) trivial (d'+1) T' (by omega) hT
    cases h
   rename_i hf
   try rw[hf]
   try dsimp only at h ⊢
   split at h
   ·rename_i v hl
    try rw[hl]
    cases h;refine⟨_,_,by(try dsimp only);rw[hlen,show i+δ+1=i+1+δ by omega],?_⟩;simp only[List.map_append,List.map_cons,List.map_nil,wJ,hT]
   cases h
  rename_i h0;rw[if_neg h0,w];split at h
  ·rename_i hw;rw[if_pos hw];split at h
   ·cases h
   rename_i hd12;rw[if_neg (by omega:¬ d'=12)];split at h
   ·rename_i a0 i0 d0 T0 hh;have hk:=kp _ _ _ _ _ hh (by omega) (by omega) trivial;obtain⟨k1,k2,k3,k4,k5⟩:=hk;obtain⟨d2,T2,h1,h2⟩:=ih _ _ _ _ _ _ _ _ _ hh (.lev _) (by omega) (by omega) (by omega) trivial (d'+1) T' (by omega) hT;rw[show i+δ+1=i+1+δ by omega,h1];dsimp only;split at h
    ·rename_i hw2;have hlt2:=yA hw2;rw[wM hs (by omega) hlt2,if_pos hw2];cases h;exact⟨_,_,by rw[show i0+δ+1=i0+1+δ by omega],h2⟩
    cases h
   rename_i hne;exact absurd h (hne _ _ _ _)
  cases h
 |f+1,.row n a0,_,i,d,T,a,i1,d1,T1,h,.row _ _,hn,hi,hd,hpre,d',T',hdd,hT=>by
  have ih:=zIk hs hno f;have kp:=xO (l:=l) f;have hlen:=zCn hT;rw[PX] at h ⊢;split at h
  ·rename_i ho;have ho':yG l' (i+δ) (opsX n)=0:=by
    rcases Nat.lt_or_ge i l.length with hlt|hge
    ·rw[zKq hs hn hlt];exact ho
    obtain rfl:i=l.length:=by omega
    exact hno n
   rw[if_pos ho'];cases h;exact⟨_,_,rfl,hT⟩
  rename_i ho;have hlt:=zBB ho;rw[zKq hs hn hlt,if_neg ho];split at h
  ·rename_i b i0 d0 T0 hh;have hk:=kp _ _ _ _ _ hh (by omega) hd trivial;obtain⟨k1,k2,k3,k4,k5⟩:=hk;simp only[Cmd.dt] at k3;obtain⟨d2,T2,h1,h2⟩:=ih _ _ _ _ _ _ _ _ _ hh (.lev _) (by omega) (by omega) hd trivial d' T' hdd hT;have hlt0:=zGI _ _ _ _ _ _ _ _ _ hh;have hd2:d2=d':=by
    have:=xO (l:=l') f _ _ _ _ _ h1 (by
     obtain⟨t',ht',_⟩:=hs (i+1) l[i+1] (by omega) (List.getElem?_eq_getElem hlt0);have:=getElem?_lt ht';omega) (by omega) trivial
    exact this.2.2.1
   rw[show i+δ+1=i+1+δ by omega,h1];dsimp only;have hmap:∀(o:Int) (p q:Int×Int),(T2++[xK o VZ [] [(a0:Int),(b:Int)] p]).map Node.s=(T0++[xK o VZ [] [(a0:Int),(b:Int)] q]).map Node.s:=fun o p q=>by
    simp only[List.map_append,List.map_cons,List.map_nil,wJ,h2]
   split at h
   ·rename_i hm;rw[if_pos hm,zCn h2];exact ih _ _ _ _ _ _ _ _ _ h (.row _ _) (by omega) k2 (by omega) (by simp [Cmd.pre]) d2 _ (by omega) (hmap _ _ _)
   rename_i hm;rw[if_neg hm];cases h;exact⟨_,_,by(try dsimp only);rw[zCn h2],hmap _ _ _⟩
  rename_i hne;exact absurd h (hne _ _ _ _)
 |f+1,.call op least most kids p,_,i,d,T,a,i1,d1,T1,h,.call _ _ _ _ _ q,hn,hi,hd,hpre,d',T',hdd,hT=>by
  have ih:=zIk hs hno f;have kp:=xO (l:=l) f;have hlen:=zCn hT;rw[PX] at h ⊢;split at h
  ·rename_i b i0 d0 T0 hh;have hk:=kp _ _ _ _ _ hh (by omega) hd trivial;obtain⟨k1,k2,k3,k4,k5⟩:=hk;simp only[Cmd.dt] at k3;obtain⟨d2,T2,h1,h2⟩:=ih _ _ _ _ _ _ _ _ _ hh (.lev _) (by omega) (by omega) hd trivial d' T' hdd hT;have hlt0:=zGI _ _ _ _ _ _ _ _ _ hh;have hd2:d2=d':=by
    have:=xO (l:=l') f _ _ _ _ _ h1 (by
     obtain⟨t',ht',_⟩:=hs i l[i] (by omega) (List.getElem?_eq_getElem hlt0);have:=getElem?_lt ht';omega) (by omega) trivial
    exact this.2.2.1
   rw[h1];dsimp only;have hi0:i0<l.length:=by
    rcases Nat.lt_or_ge i0 l.length with h'|h'
    ·exact h'
    have hno:∀w,isW l i0 w=false:=fun w=>by unfold isW;rw[List.getElem?_eq_none h']
    simp [hno] at h
   rw[wM hs (by omega) hi0,wM hs (by omega) hi0];split at h
   ·cases h
   rename_i hc;rw[if_neg hc];split at h
   ·rename_i hw;rw[if_pos hw,show i0+δ+1=i0+1+δ by omega];exact ih _ _ _ _ _ _ _ _ _ h (.call _ _ _ _ _ _) (by omega) (by omega) (by omega) trivial d2 T2 (by omega) h2
   rename_i hw;rw[if_neg hw];split at h
   ·rename_i hw2;rw[if_pos hw2,show i0+δ+1=i0+1+δ by omega];cases h;refine⟨_,_,by(try dsimp only);rw[zCn h2],?_⟩;simp only[List.map_append,List.map_cons,List.map_nil,wJ,h2]
   cases h
  rename_i hne;exact absurd h (hne _ _ _ _)
def zCm{l:List Tok}:∀(f:Nat) (c:Cmd) (i d:Nat) (T:List Node) (r:RX),PX l f c i d T=some r→∀g,f≤g→PX l g c i d T=some r
 |0,c,i,d,T,r,h,_,_=>by simp [PX] at h
 |f+1,c,i,d,T,r,h,g,hg=>by
  obtain⟨g,rfl⟩:∃g',g=g'+1:=⟨g - 1,by omega⟩;have ih:=fun c i d T r h=>zCm (l:=l) f c i d T r h g (by omega)
  cases c with
  |lev n =>
   rw[PX] at h ⊢;split at h
   ·rename_i h0;rw[if_pos h0];split at h
    ·rename_i h1;rw[if_pos h1];split at h
     ·rename_i h2;rw[if_pos h2];exact h
     rename_i h2;rw[if_neg h2];cases hh:PX l f (.lev n) (i+1) (d+1) T with
     |none=>rw[hh] at h;cases h
     |some x=>rw[hh] at h;rw[ih _ _ _ _ _ hh];exact h
    rename_i h1;rw[if_neg h1];exact ih _ _ _ _ _ h
   rename_i h0;rw[if_neg h0];split at h
   ·rename_i h1;rw[if_pos h1];cases hh:PX l f (.lev (n+1)) i d T with
    |none=>rw[hh] at h;cases h
    |some x =>
     rw[hh] at h;rw[ih _ _ _ _ _ hh];cases x with
     |ok a i' d' T'=>exact ih _ _ _ _ _ h
     |pan e i' d' T'=>exact h
   rename_i h1;rw[if_neg h1];cases ht:l[i]? with
   |none=>rw[ht] at h;exact h
   |some t =>
    rw[ht] at h;dsimp only at h ⊢;split at h
    ·rename_i h2;rw[if_pos h2];exact h
    rename_i h2;rw[if_neg h2];split at h
    ·rename_i h2;rw[if_pos h2];exact h
    rename_i h2;rw[if_neg h2];split at h
    ·rename_i h2;rw[if_pos h2];exact h
    rename_i h2;rw[if_neg h2];split at h
    ·rename_i h2;rw[if_pos h2];cases hf:wV t.s jZ with
     |none=>rw[hf] at h;exact h
     |some x =>
      rw[hf] at h;obtain⟨op,least,most⟩:=x;dsimp only at h ⊢;split at h
      ·rename_i h3;rw[if_pos h3];split at h
       ·rename_i h4;rw[if_pos h4];exact h
       rename_i h4;rw[if_neg h4];exact ih _ _ _ _ _ h
      rename_i h3;rw[if_neg h3];exact h
    rename_i h2;rw[if_neg h2];split at h
    ·rename_i h3;rw[if_pos h3];split at h
     ·rename_i h4;rw[if_pos h4];exact h
     rename_i h4;rw[if_neg h4];cases hh:PX l f (.lev 0) (i+1) (d+1) T with
     |none=>rw[hh] at h;cases h
     |some x=>rw[hh] at h;rw[ih _ _ _ _ _ hh];exact h
    rename_i h3;rw[if_neg h3];exact h
  |row n a =>
   rw[PX] at h ⊢;split at h
   ·rename_i h0;rw[if_pos h0];exact h
   rename_i h0;rw[if_neg h0];cases hh:PX l f (.lev (n+1)) (i+1) d T with
   |none=>rw[hh] at h;cases h
   |some x =>
    rw[hh] at h;rw[ih _ _ _ _ _ hh];cases x with
    |pan e i' d' T'=>exact h
    |ok b i' d' T' =>
     dsimp only at h ⊢;split at h
     ·rename_i h1;rw[if_pos h1];exact ih _ _ _ _ _ h
     rename_i h1;rw[if_neg h1];exact h
  |call op least most kids p =>
   rw[PX] at h ⊢;cases hh:PX l f (.lev 0) i d T with
   |none=>rw[hh] at h;cases h
   |some x =>
    rw[hh] at h;rw[ih _ _ _ _ _ hh];cases x with
    |pan e i' d' T'=>exact h
    |ok b i' d' T' =>
     dsimp only at h ⊢;split at h
     ·rename_i h1;rw[if_pos h1];exact h
     rename_i h1;rw[if_neg h1];split at h
     ·rename_i h2;rw[if_pos h2];exact ih _ _ _ _ _ h
     rename_i h2;rw[if_neg h2];exact h
def zP1{l:List Tok}:∀(f:Nat) (c:Cmd) (i d:Nat) (T:List Node) (a i' d':Nat) (T':List Node),PX l f c i d T=some (.ok a i' d' T')→T.length≤T'.length
 |0,c,i,d,T,a,i',d',T',h=>by simp [PX] at h
 |f+1,c,i,d,T,a,i',d',T',h=>by
  have ih:=zP1 (l:=l) f;cases c with
  |lev n =>
   rw[PX] at h;split at h
   ·split at h
    ·split at h
     ·cases h
     split at h
     ·rename_i hh;cases h;have:=ih _ _ _ _ _ _ _ _ hh;simp only[List.length_append,List.length_cons,List.length_nil];omega
     rename_i hne;exact absurd h (hne _ _ _ _)
    exact ih _ _ _ _ _ _ _ _ h
   split at h
   ·split at h
    ·rename_i hh;have:=ih _ _ _ _ _ _ _ _ hh;have:=ih _ _ _ _ _ _ _ _ h;omega
    rename_i hne;exact absurd h (hne _ _ _ _)
   split at h
   ·cases h
   split at h
   ·cases h;simp
   split at h
   ·cases h;simp
   split at h
   ·cases h;simp
   split at h
   ·split at h
    ·split at h
     ·split at h
      ·cases h
      exact ih _ _ _ _ _ _ _ _ h
     cases h
    split at h
    ·cases h;simp
    cases h
   split at h
   ·split at h
    ·cases h
    split at h
    ·rename_i hh;have:=ih _ _ _ _ _ _ _ _ hh;split at h
     ·cases h;exact this
     cases h
    rename_i hne;exact absurd h (hne _ _ _ _)
   cases h
  |row n a =>
   rw[PX] at h;split at h
   ·cases h;exact Nat.le_refl _
   split at h
   ·rename_i hh;have h1:=ih _ _ _ _ _ _ _ _ hh;split at h
    ·have:=ih _ _ _ _ _ _ _ _ h;simp only[List.length_append,List.length_cons,List.length_nil] at this;omega
    cases h;simp only[List.length_append,List.length_cons,List.length_nil];omega
   rename_i hne;exact absurd h (hne _ _ _ _)
  |call op least most kids p =>
   rw[PX] at h;split at h
   ·rename_i hh;have h1:=ih _ _ _ _ _ _ _ _ hh;split at h
    ·cases h
    split at h
    ·have:=ih _ _ _ _ _ _ _ _ h;omega
    split at h
    ·cases h;simp only[List.length_append,List.length_cons,List.length_nil];omega
    cases h
   rename_i hne;exact absurd h (hne _ _ _ _)
def PXF(l:List Tok)(i:Nat):Option RX:=PX l (16 * (l.length - i)+9) (.lev 0) i 0 []
def zDQ{l:List Tok}{i:Nat}(hi:i≤l.length):∃r,PXF l i=some r :=
 zHd _ _ _ _ _ (by simp [Cmd.need]) hi (by omega) trivial
def zH(l:List Tok)(i:Nat):List Node×Nat×Int :=
 match PXF l i with
 |some (.ok _ i' _ T)=>if 60<T.length then ([],i,7) else (T,i',0)
 |some (.pan e i' _ _)=>([],i',e)
 |none=>([],0,4)
def zEy{l:List Tok}{i:Nat}(hi:i≤l.length):(zH l i).2.2=0↔∃f a i' d' T,PX l f (.lev 0) i 0 []=some (.ok a i' d' T)∧T.length≤60∧zH l i=(T,i',0):=by
 obtain⟨r,hr⟩:=zDQ hi
 constructor
 ·intro h;unfold zH at h ⊢;rw[hr] at h ⊢;cases r with
  |ok a i' d' T =>
   dsimp only at h ⊢;split at h
   ·cases h
   rename_i h60;rw[if_neg h60];exact⟨_,a,i',d',T,hr,by omega,rfl⟩
  |pan e i' d' T =>
   have:=(xO _ _ _ _ _ _ hr hi (by omega) trivial).2.2.2.2.1;dsimp only at h;omega
 rintro⟨f,a,i',d',T,_,_,h⟩;rw[h]
def zDf{l:List Tok}{i:Nat}(hi:i≤l.length):(zH l i).2.1≤l.length:=by
 obtain⟨r,hr⟩:=zDQ hi;unfold zH;rw[hr];have hk:=xO _ _ _ _ _ _ hr hi (by omega) trivial;cases r with
 |ok a i' d' T=>dsimp only;split;exact hi;exact hk.2.1
 |pan e i' d' T=>exact hk.2.1
def zH1{l:List Tok}{f i a i' d':Nat}{T:List Node}(hi:i≤l.length)(h:PX l f (.lev 0) i 0 []=some (.ok a i' d' T))(h60:T.length≤60):zH l i=(T,i',0):=by
 obtain⟨r,hr⟩:=zDQ hi;have h1:=zCm _ _ _ _ _ _ h (max f (16 * (l.length - i)+9)) (by omega);have h2:=zCm _ _ _ _ _ _ hr (max f (16 * (l.length - i)+9)) (by omega);rw[h1] at h2;cases h2;unfold zH;rw[hr];dsimp only;rw[if_neg (by omega)]
def zDr {l l':List Tok} {n0 δ i:Nat} (hs:SmW l l' n0 δ) (hno:NoOp l' (l.length+δ)) (hn:n0≤i) (hi:i≤l.length) (hi':i+δ≤l'.length) (h:(zH l i).2.2=0) :
  (zH l' (i+δ)).2.2=0∧(zH l' (i+δ)).2.1=(zH l i).2.1+δ∧(zH l' (i+δ)).1.map Node.s=(zH l i).1.map Node.s:=by
 obtain⟨f,a,i1,d1,T,h1,h2,h3⟩:=(zEy hi).1 h;obtain⟨d2,T2,h4,h5⟩:=zIk hs hno f _ _ _ _ _ _ _ _ _ h1 (.lev 0) hn hi (by omega) trivial 0 [] (Nat.le_refl _) rfl;have:=zH1 hi' h4 (by rw[zCn h5];exact h2);rw[this,h3];exact⟨rfl,rfl,h5⟩
def zFM{l:List Tok}{i:Nat}(hi:i≤l.length)(h:(zH l i).2.2=0):i≤(zH l i).2.1:=by
 obtain⟨f,a,i1,d1,T,h1,h2,h3⟩:=(zEy hi).1 h;rw[h3];exact(xO _ _ _ _ _ _ h1 hi (by omega) trivial).1
structure STst where
 op:Int
 a:List SNode
 b:List SNode
 low:Bool
 high:Bool
 kids:List Int
 deriving DecidableEq
def Test.s(x:Test):STst:=⟨x.op,x.a.l.map Node.s,x.b.l.map Node.s,x.low,x.high,x.kids.l⟩
def slX{α:Type}(l:List α):Sl α:=match l with
 |[]=>⟨true,true,[]⟩
 |a::r=>⟨false,false,a::r⟩
def zKy{α:Type}(l:List α):(slX l).l=l:=by cases l<;>rfl
def xA(ks:List Nat):List Int:=ks.map fun k:Nat=>(k:Int)
def xJ(op:Int)(a b:List Node)(low high:Bool)(kids:List Nat)(p:Int×Int):Test:=⟨op,slX a,slX b,low,high,slX (xA kids),p.1,p.2⟩
def vZ(op:Int)(a b:List Node)(low high:Bool)(kids:List Nat)(p:Int×Int):(xJ op a b low high kids p).s=⟨op,a.map Node.s,b.map Node.s,low,high,xA kids⟩:=by
 simp only[xJ,Test.s,zKy]
inductive RU where
 |ok (k i n:Nat) (T:List Test)
 |oks (ks:List Nat) (i n:Nat) (T:List Test)
 |pan (e:Int) (i:Nat)
inductive UC where
 |one
 |list (ks:List Nat)
 |tests
def zBD:List (List Nat×Int):=[([61],2),([60],3),([60,61],4),([62],5),([62,61],6)]
def jF(l:List Tok)(i:Nat):List (List Nat×Int)→Option Int
 |[]=>none
 |o::os=>if isW l i o.1 then some o.2 else jF l i os
def qR(l:List Tok)(i:Nat):Bool :=
 match l[i]? with
 |some t=>t.k==1&&isW l (i+1) [58]
 |none=>false
def xQ(l:List Tok)(i:Nat):Bool:=(isW l i [91]||isW l i [40])&&((zH l (i+1)).2.2==0&&isW l (zH l (i+1)).2.1 [46,46])
def anyX(l:List Tok)(i:Nat):Bool:=isW l i [45]&&(zH l i).2.2 != 0
def notX(l:List Tok)(i:Nat):Bool:=isW l i [110,111,116]&&isW l (i+1) [40]
def cmpX(l:List Tok)(op:Int)(p:Int×Int)(i n:Nat)(T:List Test):RU :=
 if (zH l i).2.2=0 then .ok T.length (zH l i).2.1 n (T++[xJ op (zH l i).1 [] false false [] p]) else .pan (zH l i).2.2 (zH l i).2.1
def rngX(l:List Tok)(i n:Nat)(T:List Test):RU :=
 if (zH l ((zH l (i+1)).2.1+1)).2.2=0 then
  if isW l (zH l ((zH l (i+1)).2.1+1)).2.1 [93]||isW l (zH l ((zH l (i+1)).2.1+1)).2.1 [41] then
   .ok T.length ((zH l ((zH l (i+1)).2.1+1)).2.1+1) n (T++[xJ 7 (zH l (i+1)).1 (zH l ((zH l (i+1)).2.1+1)).1 (isW l i [40]) (isW l (zH l ((zH l (i+1)).2.1+1)).2.1 [41]) [] (plW l i)])
  else .pan 4 (zH l ((zH l (i+1)).2.1+1)).2.1
 else .pan (zH l ((zH l (i+1)).2.1+1)).2.2 (zH l ((zH l (i+1)).2.1+1)).2.1
def UX(l:List Tok):Nat→UC→Nat→Nat→List Test→Option RU
 |0,_,_,_,_=>none
 |f+1,.one,i,n,T =>
  if anyX l i then some (.ok T.length (i+1) n (T++[xJ 1 [] [] false false [] (plW l i)]))
  else if notX l i then
   if n=4 then some (.pan 12 i) else
   match UX l f .tests (i+2) (n+1) T with
   |some (.ok k i' n' T')=>if isW l i' [41] then some (.ok T'.length (i'+1) (n' - 1) (T'++[xJ 8 [] [] false false [k] (plW l i)])) else some (.pan 4 i')
   |r=>r
  else if xQ l i then some (rngX l i n T)
  else match jF l i zBD with
   |some op=>some (cmpX l op (plW l i) (i+1) n T)
   |none=>some (cmpX l 2 (plW l i) i n T)
 |f+1,.list ks,i,n,T =>
  if isW l i [44]&&!qR l (i+1) then
   match UX l f .one (i+1) n T with
   |some (.ok k i' n' T')=>UX l f (.list (ks++[k])) i' n' T'
   |r=>r
  else some (.oks ks i n T)
 |f+1,.tests,i,n,T =>
  match UX l f .one i n T with
  |some (.ok k i' n' T') =>
   match UX l f (.list [k]) i' n' T' with
   |some (.oks [k] i2 n2 T2)=>some (.ok k i2 n2 T2)
   |some (.oks ks i2 n2 T2)=>some (.ok T2.length i2 n2 (T2++[xJ 9 [] [] false false ks (plW l i)]))
   |r=>r
  |r=>r
def UC.kl:UC→List Nat
 |.list ks=>ks
 |_=>[]
def UC.ks(c:UC):Nat:=c.kl.length
def KU(l:List Tok)(c:UC)(i n:Nat)(T:List Test):RU→Prop
 |.ok k i' n' T'=>(match c with|.list _=>False|_=>True)∧i<i'∧i'≤l.length∧n'=n∧T'.length≤T.length+(i' - i)∧k<T'.length∧T.length≤T'.length
 |.oks ks i' n' T'=>(match c with|.list _=>True|_=>False)∧i≤i'∧i'≤l.length∧n'=n∧T'.length+ks.length≤T.length+c.ks+(i' - i)∧T.length≤T'.length∧∃m,ks=c.kl++m∧∀x ∈ m,x<T'.length
 |.pan e i'=>i'≤l.length∧0<e∧e<256
def zOF{l:List Tok}{i:Nat}(hi:i≤l.length):0≤(zH l i).2.2∧(zH l i).2.2<256:=by
 obtain⟨r,hr⟩:=zDQ hi;unfold zH;rw[hr];have hk:=xO _ _ _ _ _ _ hr hi (by omega) trivial;cases r with
 |ok a i' d' T=>dsimp only;split<;>simp
 |pan e i' d' T=>exact⟨by have:=hk.2.2.2.2.1;simp only;omega,hk.2.2.2.2.2⟩
def zH7{l:List Tok}{i:Nat}(hi:i≤l.length)(h:(zH l i).2.2=0):i<(zH l i).2.1:=by
 obtain⟨f,a,i1,d1,T,h1,h2,h3⟩:=(zEy hi).1 h;rw[h3];have hk:=xO _ _ _ _ _ _ h1 hi (by omega) trivial;obtain⟨k1,k2,k3,k4,k5⟩:=hk;simp only[List.length_nil] at k4
 show i<i1
 omega
def zKL{l:List Tok}{op:Int}{p:Int×Int}{j i n:Nat}{T:List Test}(hi:i≤l.length)(hj:j≤i):KU l .one j n T (cmpX l op p i n T):=by
 unfold cmpX;split
 ·rename_i h;have h1:=zH7 hi h;have h2:=zDf hi;refine⟨trivial,by omega,h2,rfl,?_,?_,?_⟩<;>simp only[List.length_append,List.length_cons,List.length_nil]<;>omega
 rename_i h;have h1:=zOF hi;exact⟨zDf hi,by omega,h1.2⟩
def zCz{l:List Tok}{i:Nat}(h:xQ l i=true):i<l.length∧(zH l (i+1)).2.2=0∧isW l (zH l (i+1)).2.1 [46,46]=true:=by
 simp only[xQ,Bool.and_eq_true,Bool.or_eq_true,beq_iff_eq] at h;obtain⟨h1,h2,h3⟩:=h;exact⟨h1.elim yA yA,h2,h3⟩
def zJW{l:List Tok}{i:Nat}{op:Int}:∀ {os:List (List Nat×Int)},jF l i os=some op→i<l.length
 |[],h=>by simp [jF] at h
 |o::os,h=>by
  unfold jF at h;split at h
  ·rename_i h';exact yA h'
  exact zJW h
def yH{l:List Tok}:∀(f:Nat) (c:UC) (i n:Nat) (T:List Test) (r:RU),UX l f c i n T=some r→i≤l.length→KU l c i n T r
 |0,c,i,n,T,r,h,_=>by simp [UX] at h
 |f+1,.one,i,n,T,r,h,hi=>by
  have ih:=yH (l:=l) f;rw[UX] at h;split at h
  ·rename_i ha;simp only[anyX,Bool.and_eq_true] at ha;have:=yA ha.1;cases h;refine⟨trivial,by omega,by omega,rfl,?_,?_,?_⟩<;>simp only[List.length_append,List.length_cons,List.length_nil]<;>omega
  split at h
  ·rename_i hn;simp only[notX,Bool.and_eq_true] at hn;have:=yA hn.2;split at h
   ·cases h;exact⟨hi,by decide,by decide⟩
   split at h
   ·rename_i hh;obtain⟨_,k1,k2,k3,k4,k5,k6⟩:=ih _ _ _ _ _ hh (by omega);split at h
    ·rename_i hw;have:=yA hw;cases h;refine⟨trivial,by omega,by omega,by omega,?_,?_,?_⟩<;>simp only[List.length_append,List.length_cons,List.length_nil]<;>omega
    cases h;exact⟨k2,by decide,by decide⟩
   rename_i hne;have:=ih _ _ _ _ _ h (by omega);cases r with
   |ok k i' n' T'=>exact absurd h (hne _ _ _ _)
   |oks ks i' n' T'=>exact absurd this.1 id
   |pan e i'=>exact this
  split at h
  ·rename_i hr;obtain⟨h1,h2,h3⟩:=zCz hr;have h4:=yA h3;have h6:=zH7 (l:=l) (i:=i+1) (by omega) h2;have h5:(zH l (i+1)).2.1+1≤l.length:=by omega
   have h7:=zDf h5;cases h;unfold rngX;split
   ·rename_i he;have h8:=zH7 h5 he;split
    ·rename_i hw;have h9:(zH l ((zH l (i+1)).2.1+1)).2.1<l.length:=by
      simp only[Bool.or_eq_true] at hw;exact hw.elim yA yA
     refine⟨trivial,by omega,by omega,rfl,?_,?_,?_⟩<;>simp only[List.length_append,List.length_cons,List.length_nil]<;>omega
    exact⟨h7,by decide,by decide⟩
   have:=zOF h5;exact⟨h7,by omega,this.2⟩
  split at h
  ·rename_i hs;have:=zJW hs;cases h;exact zKL (by omega) (by omega)
  cases h;exact zKL hi (Nat.le_refl _)
 |f+1,.list ks,i,n,T,r,h,hi=>by
  have ih:=yH (l:=l) f;rw[UX] at h;split at h
  ·rename_i hc;simp only[Bool.and_eq_true] at hc;have:=yA hc.1;split at h
   ·rename_i k i' n' T' hh;obtain⟨_,k1,k2,k3,k4,k5,k6⟩:=ih _ _ _ _ _ hh (by omega);have:=ih _ _ _ _ _ h k2;cases r with
    |ok k i' n' T'=>exact absurd this.1 id
    |oks ks' i' n' T' =>
     obtain⟨_,a1,a2,a3,a4,a5,m,rfl,a6⟩:=this;simp only[UC.ks,UC.kl,List.length_append,List.length_cons,List.length_nil] at a4 a5;refine⟨trivial,by omega,a2,by omega,by simp only[UC.ks,UC.kl,List.length_append,List.length_cons,List.length_nil];omega,by omega,k::m,by simp [UC.kl],fun x hx=>?_⟩;rcases List.mem_cons.1 hx with rfl|hx
     ·omega
     exact a6 x hx
    |pan e i'=>exact this
   rename_i hne;have:=ih _ _ _ _ _ h (by omega);cases r with
   |ok k i' n' T'=>exact absurd h (hne _ _ _ _)
   |oks ks i' n' T'=>exact absurd this.1 id
   |pan e i'=>exact this
  cases h;exact⟨trivial,Nat.le_refl _,hi,rfl,by simp only[UC.ks,UC.kl];omega,Nat.le_refl _,[],by simp [UC.kl],by simp⟩
 |f+1,.tests,i,n,T,r,h,hi=>by
  have ih:=yH (l:=l) f;rw[UX] at h;split at h
  ·rename_i k i' n' T' hh;obtain⟨_,k1,k2,k3,k4,k5,k6⟩:=ih _ _ _ _ _ hh hi;split at h
   ·rename_i k2' i2 n2 T2 hl;obtain⟨_,a1,a2,a3,a4,a5,m,a6,a7⟩:=ih _ _ _ _ _ hl k2;cases h;simp only[UC.ks,UC.kl,List.length_cons,List.length_nil] at a4 a6;simp only[List.cons_append,List.nil_append,List.cons.injEq] at a6;refine⟨trivial,by omega,a2,by omega,by omega,by omega,by omega⟩
   ·rename_i ks i2 n2 T2 hne hl;obtain⟨_,a1,a2,a3,a4,a5,m,a6,a7⟩:=ih _ _ _ _ _ hl k2;cases h;have h2:2≤ks.length:=by
     subst a6
     match m,hne with
     |[],hne=>exact absurd rfl (hne k)
     |_::_,_=>simp [UC.kl]
    simp only[UC.ks,UC.kl,List.length_cons,List.length_nil] at a4;refine⟨trivial,by omega,a2,by omega,?_,?_,?_⟩<;>simp only[List.length_append,List.length_cons,List.length_nil]<;>omega
   rename_i h1 h2;have:=ih _ _ _ _ _ h k2;cases r with
   |ok k i' n' T'=>exact absurd this.1 id
   |oks ks i' n' T'=>exact absurd h (h2 _ _ _ _)
   |pan e i'=>exact this
  rename_i hne;have:=ih _ _ _ _ _ h hi;cases r with
  |ok k i' n' T'=>exact absurd h (hne _ _ _ _)
  |oks ks i' n' T'=>exact absurd this.1 id
  |pan e i'=>exact this
def UC.need(l:List Tok)(i:Nat):UC→Nat
 |.one=>4 * (l.length - i)+2
 |.list _=>4 * (l.length - i)+1
 |.tests=>4 * (l.length - i)+3
def zD0{l:List Tok}:∀(f:Nat) (c:UC) (i n:Nat) (T:List Test),c.need l i≤f→i≤l.length→∃r,UX l f c i n T=some r
 |0,c,i,n,T,h,_=>by cases c<;>simp [UC.need] at h
 |f+1,.one,i,n,T,h,hi=>by
  have ih:=zD0 (l:=l) f;simp only[UC.need] at h;rw[UX];split
  ·exact⟨_,rfl⟩
  split
  ·rename_i hn;simp only[notX,Bool.and_eq_true] at hn;have:=yA hn.2;split
   ·exact⟨_,rfl⟩
   obtain⟨r,hr⟩:=ih .tests (i+2) (n+1) T (by simp only[UC.need];omega) (by omega);rw[hr];cases r with
   |ok k i' n' T'=>dsimp only;split<;>exact⟨_,rfl⟩
   |oks ks i' n' T'=>exact⟨_,rfl⟩
   |pan e i'=>exact⟨_,rfl⟩
  split
  ·exact⟨_,rfl⟩
  split<;>exact⟨_,rfl⟩
 |f+1,.list ks,i,n,T,h,hi=>by
  have ih:=zD0 (l:=l) f;simp only[UC.need] at h;rw[UX];split
  ·rename_i hc;simp only[Bool.and_eq_true] at hc;have:=yA hc.1;obtain⟨r,hr⟩:=ih .one (i+1) n T (by simp only[UC.need];omega) (by omega);have hk:=yH _ _ _ _ _ _ hr (by omega);rw[hr];cases r with
   |ok k i' n' T' =>
    obtain⟨_,k1,k2,_⟩:=hk;exact ih _ _ _ _ (by simp only[UC.need];omega) k2
   |oks ks i' n' T'=>exact⟨_,rfl⟩
   |pan e i'=>exact⟨_,rfl⟩
  exact⟨_,rfl⟩
 |f+1,.tests,i,n,T,h,hi=>by
  have ih:=zD0 (l:=l) f;simp only[UC.need] at h;rw[UX];obtain⟨r,hr⟩:=ih .one i n T (by simp only[UC.need];omega) hi;have hk:=yH _ _ _ _ _ _ hr hi;rw[hr];cases r with
  |ok k i' n' T' =>
   obtain⟨_,k1,k2,_⟩:=hk;obtain⟨r2,hr2⟩:=ih (.list [k]) i' n' T' (by simp only[UC.need];omega) k2;dsimp only;rw[hr2];cases r2 with
   |ok k i' n' T'=>exact⟨_,rfl⟩
   |oks ks i' n' T' =>
    match ks with
    |[]=>exact⟨_,rfl⟩
    |[a]=>exact⟨_,rfl⟩
    |a::b::ks=>exact⟨_,rfl⟩
   |pan e i'=>exact⟨_,rfl⟩
  |oks ks i' n' T'=>exact⟨_,rfl⟩
  |pan e i'=>exact⟨_,rfl⟩
def vJ{l:List Tok}:∀(f:Nat) (c:UC) (i n:Nat) (T:List Test) (r:RU),UX l f c i n T=some r→∀g,f≤g→UX l g c i n T=some r
 |0,c,i,n,T,r,h,_,_=>by simp [UX] at h
 |f+1,c,i,n,T,r,h,g,hg=>by
  obtain⟨g,rfl⟩:∃g',g=g'+1:=⟨g - 1,by omega⟩;have ih:=fun c i n T r h=>vJ (l:=l) f c i n T r h g (by omega)
  cases c with
  |one =>
   rw[UX] at h ⊢;split at h
   ·rename_i h0;rw[if_pos h0];exact h
   rename_i h0;rw[if_neg h0];split at h
   ·rename_i h1;rw[if_pos h1];split at h
    ·rename_i h2;rw[if_pos h2];exact h
    rename_i h2;rw[if_neg h2];cases hh:UX l f .tests (i+2) (n+1) T with
    |none=>rw[hh] at h;cases h
    |some x=>rw[hh] at h;rw[ih _ _ _ _ _ hh];exact h
   rename_i h1;rw[if_neg h1];exact h
  |list ks =>
   rw[UX] at h ⊢;split at h
   ·rename_i h0;rw[if_pos h0];cases hh:UX l f .one (i+1) n T with
    |none=>rw[hh] at h;cases h
    |some x =>
     rw[hh] at h;rw[ih _ _ _ _ _ hh];cases x with
     |ok k i' n' T'=>exact ih _ _ _ _ _ h
     |oks ks i' n' T'=>exact h
     |pan e i'=>exact h
   rename_i h0;rw[if_neg h0];exact h
  |tests =>
   rw[UX] at h ⊢;cases hh:UX l f .one i n T with
   |none=>rw[hh] at h;cases h
   |some x =>
    rw[hh] at h;rw[ih _ _ _ _ _ hh];cases x with
    |ok k i' n' T' =>
     dsimp only at h ⊢;cases hh2:UX l f (.list [k]) i' n' T' with
     |none=>rw[hh2] at h;cases h
     |some y=>rw[hh2] at h;rw[ih _ _ _ _ _ hh2];exact h
    |oks ks i' n' T'=>exact h
    |pan e i'=>exact h
def STst.sh(m:Nat)(x:STst):STst:={ x with kids:=x.kids.map fun k=>k+m }
def USim(l l':List Tok)(n0 δ:Nat):Prop:=SmW l l' n0 δ∧l.length+δ≤l'.length∧∀t,l'[l.length+δ]?=some t→t.k=7∧(t.s=[44]∨t.s=[41])
def wT{l:List Tok}{i:Nat}{v w:List Nat}(h:isW l i v=true)(hw:v≠w):isW l i w=false:=by
 unfold isW at h ⊢;split at h
 ·rename_i t ht;simp only[Bool.and_eq_true,beq_iff_eq] at h;rw[h.2];have:(v==w)=false:=by simpa using hw
  simp [this]
 cases h
theorem USim.end_{l l':List Tok}{n0 δ:Nat}(h:USim l l' n0 δ)(w:List Nat)(h1:w≠[44])(h2:w≠[41]):isW l' (l.length+δ) w=false:=by
 unfold isW;split
 ·rename_i t ht;have:(t.s==w)=false:=by
   rcases(h.2.2 t ht).2 with h3|h3<;>rw[h3]<;>simp<;>intro h4
   ·exact h1 h4.symm
   exact h2 h4.symm
  simp [this]
 rfl
theorem USim.noOp{l l':List Tok}{n0 δ:Nat}(h:USim l l' n0 δ):NoOp l' (l.length+δ):=by
 intro n;have e:=h.end_
 match n with
 |0=>simp only[opsX,yG,e _ (by decide:[111,114]≠[44]) (by decide)];rfl
 |1=>simp only[opsX,yG,e _ (by decide:[97,110,100]≠[44]) (by decide)];rfl
 |2=>rfl
 |3=>simp only[opsX,yG,e _ (by decide:[61]≠[44]) (by decide),e _ (by decide:[60,62]≠[44]) (by decide),e _ (by decide:[60]≠[44]) (by decide),e _ (by decide:[60,61]≠[44]) (by decide),e _ (by decide:[62]≠[44]) (by decide),e _ (by decide:[62,61]≠[44]) (by decide)];rfl
 |4=>simp only[opsX,yG,e _ (by decide:[43]≠[44]) (by decide),e _ (by decide:[45]≠[44]) (by decide)];rfl
 |5=>simp only[opsX,yG,e _ (by decide:[42]≠[44]) (by decide),e _ (by decide:[47]≠[44]) (by decide)];rfl
 |n+6=>rfl
def TSim(pre:List STst)(T T':List Test):Prop:=T'.map Test.s=pre++(T.map Test.s).map (STst.sh pre.length)
theorem TSim.len{pre:List STst}{T T':List Test}(h:TSim pre T T'):T'.length=T.length+pre.length:=by
 have:=congrArg List.length h;simp at this;omega
theorem TSim.snoc{pre:List STst}{T T':List Test}{x y:Test}(h:TSim pre T T')(hx:y.s=x.s.sh pre.length):TSim pre (T++[x]) (T'++[y]):=by
 unfold TSim at h ⊢;simp only[List.map_append,List.map_cons,List.map_nil,h,hx,List.append_assoc]
def zFu (op:Int) (a a' b b':List Node) (low high:Bool) (kids:List Nat) (p q:Int×Int) (m:Nat) (ha:a'.map Node.s=a.map Node.s) (hb:b'.map Node.s=b.map Node.s) :
  (xJ op a' b' low high (kids.map (·+m)) q).s=(xJ op a b low high kids p).s.sh m:=by
 simp only[vZ,STst.sh,ha,hb,xA,List.map_map]
 congr 1
def zJT{l l':List Tok}{n0 δ i:Nat}(h:SmW l l' n0 δ)(hn:n0≤i)(hi:i<l.length):∀os,jF l' (i+δ) os=jF l i os
 |[]=>rfl
 |o::os=>by unfold jF;rw[wM h hn hi,zJT h hn hi os]
def zPn {l l':List Tok} {n0 δ:Nat} (hs:USim l l' n0 δ) {pre:List STst} {T T':List Test} (hT:TSim pre T T') {op:Int} {p q:Int×Int} {i n k i1 n1:Nat} {T1:List Test}
  (hn:n0≤i) (hi:i≤l.length) (h:cmpX l op p i n T=.ok k i1 n1 T1):∃T1',cmpX l' op q (i+δ) n T'=.ok (k+pre.length) (i1+δ) n1 T1'∧TSim pre T1 T1':=by
 unfold cmpX at h ⊢;split at h
 ·rename_i h0;obtain⟨h1,h2,h3⟩:=zDr hs.1 hs.noOp hn hi (by have:=hs.2.1;omega) h0;rw[if_pos h1];cases h;refine⟨_,by rw[h2,hT.len],hT.snoc ?_⟩;exact zFu op _ _ [] [] false false [] p q _ h3 rfl
 cases h
def zFZ{l:List Tok}{f:Nat}{ks K:List Nat}{i n i1 n1:Nat}{T T1:List Test}(h:UX l f (.list ks) i n T=some (.oks K i1 n1 T1)):isW l i [44]=true∨i1=i:=by
 cases f with
 |zero=>simp [UX] at h
 |succ f =>
  rw[UX] at h;split at h
  ·rename_i hc;simp only[Bool.and_eq_true] at hc;exact .inl hc.1
  cases h;exact .inr rfl
def to7 {l:List Tok} {i:Nat} (hi:i≤l.length) (h:(zH l i).2.2=0) (hn:isW l i [110,111,116]=false) :
  ∃f a i1 d1 T,PX l f (.lev 6) i 0 []=some (.ok a i1 d1 T)∧T.length≤60:=by
 obtain⟨f,a,i1,d1,T,h1,h2,h3⟩:=(zEy hi).1 h;have down:∀n,n=0∨n=1∨n=3∨n=4∨n=5→∀f a i1 d1 T,PX l f (.lev n) i 0 []=some (.ok a i1 d1 T)→T.length≤60→∃f a i1 d1 T,PX l f (.lev (n+1)) i 0 []=some (.ok a i1 d1 T)∧T.length≤60:=by
  intro n hn f a i1 d1 T h h60;cases f with
  |zero=>simp [PX] at h
  |succ f =>
   rw[PX,if_neg (by omega),if_pos (by omega)] at h;split at h
   ·rename_i hh;have:=zP1 _ _ _ _ _ _ _ _ _ h;exact⟨_,_,_,_,_,hh,by omega⟩
   rename_i hne;exact absurd h (hne _ _ _ _)
 obtain⟨f,a,i1,d1,T,h1,h2⟩:=down 0 (by omega) _ _ _ _ _ h1 h2;obtain⟨f,a,i1,d1,T,h1,h2⟩:=down 1 (by omega) _ _ _ _ _ h1 h2;obtain⟨f,a,i1,d1,T,h1,h2⟩:∃f a i1 d1 T,PX l f (.lev 3) i 0 []=some (.ok a i1 d1 T)∧T.length≤60:=by
  cases f with
  |zero=>simp [PX] at h1
  |succ f =>
   rw[PX,if_pos (by omega),if_neg (by rw[show wX (1+1)=[110,111,116] from rfl,hn];simp)] at h1;exact⟨_,_,_,_,_,h1,h2⟩
 obtain⟨f,a,i1,d1,T,h1,h2⟩:=down 3 (by omega) _ _ _ _ _ h1 h2;obtain⟨f,a,i1,d1,T,h1,h2⟩:=down 4 (by omega) _ _ _ _ _ h1 h2;exact down 5 (by omega) _ _ _ _ _ h1 h2
def zJx{w:List Nat}(h:w=[44]∨w=[41]∨w=[91]∨w=[40]):wV w jZ=none∧wV w zB8=none:=by
 rcases h with rfl|rfl|rfl|rfl<;>exact⟨by decide,by decide⟩
def zLt{l:List Tok}{i:Nat}(hw:isW l i [45]=true)(hb:∀t,l[i+1]?=some t→(t.k=1∨t.k=7)∧(t.s=[44]∨t.s=[41])):(zH l i).2.2≠0:=by
 have hlt:=yA hw;intro h;obtain⟨f,a,i1,d1,T,h1,h2⟩:=to7 (by omega) h (wT hw (by decide));cases f with
 |zero=>simp [PX] at h1
 |succ f =>
  rw[PX,if_pos (by omega),if_pos (by exact hw),if_neg (by omega)] at h1;split at h1
  ·rename_i hh;cases f with
   |zero=>simp [PX] at hh
   |succ f =>
    have nope:∀w,w=[45]∨w=[40]→isW l (i+1) w=false:=by
     intro w hw';unfold isW;split
     ·rename_i t ht;obtain⟨_,h1⟩:=hb t ht;have:(t.s==w)=false:=by rcases hw' with rfl|rfl<;>rcases h1 with h1|h1<;>rw[h1]<;>decide
      simp [this]
     rfl
    rw[PX,if_pos (by omega),if_neg (by rw[show wX 6=[45] from rfl,nope _ (.inl rfl)];simp)] at hh;cases f with
    |zero=>simp [PX] at hh
    |succ f =>
     rw[PX,if_neg (by omega),if_neg (by omega)] at hh;split at hh
     ·cases hh
     rename_i t ht;obtain⟨hk,hts⟩:=hb t ht;obtain⟨f1,f2⟩:=zJx (w:=t.s) (by rcases hts with h|h<;>simp [h]);rw[if_neg (by omega),if_neg (by omega),if_neg (by omega),nope _ (.inr rfl),f1,f2] at hh;split at hh
     ·cases hh
     simp at hh
  rename_i hne;exact absurd h1 (hne _ _ _ _)
def zWc {l:List Tok} {i:Nat} (hi:i≤l.length) (h:(zH l i).2.2=0) (hw:isW l i [91]=true∨isW l i [40]=true) :
  (zH l (i+1)).2.2=0∧isW l (zH l (i+1)).2.1 [41]=true:=by
 have hn:isW l i [110,111,116]=false:=hw.elim (fun h=>wT h (by decide)) (fun h=>wT h (by decide));have hm:isW l i [45]=false:=hw.elim (fun h=>wT h (by decide)) (fun h=>wT h (by decide));have hlt:=hw.elim yA yA;obtain⟨f,a,i1,d1,T,h1,h2⟩:=to7 hi h hn;cases f with
 |zero=>simp [PX] at h1
 |succ f =>
  rw[PX,if_pos (by omega),if_neg (by rw[show wX 6=[45] from rfl,hm];simp)] at h1;cases f with
  |zero=>simp [PX] at h1
  |succ f =>
   rw[PX,if_neg (by omega),if_neg (by omega)] at h1;rw[List.getElem?_eq_getElem hlt] at h1;dsimp only at h1;have hts:(l[i].k=1∨l[i].k=7)∧(l[i].s=[91]∨l[i].s=[40]):=by
    unfold isW at hw;rw[List.getElem?_eq_getElem hlt] at hw;simp only[Bool.and_eq_true,Bool.or_eq_true,beq_iff_eq] at hw;exact⟨hw.elim (·.1) (·.1),hw.imp (·.2) (·.2)⟩
   obtain⟨f1,f2⟩:=zJx (w:=l[i].s) (by rcases hts.2 with h|h<;>simp [h]);have hk:=hts.1;rw[if_neg (by omega),if_neg (by omega),if_neg (by omega),f1,f2] at h1;dsimp only at h1;split at h1
   ·cases h1
   split at h1
   ·rw[if_neg (by omega)] at h1;split at h1
    ·rename_i a0 i0 d0 T0 hh;split at h1
     ·rename_i hw2;cases h1;have hi0:=yA hw2;have hid:SmW l l 0 0:=fun j t _ ht=>⟨t,ht,rfl⟩
      have hno:NoOp l (l.length+0):=fun n=>by
       by_cases h0:yG l (l.length+0) (opsX n)=0
       ·exact h0
       have:=zBB h0;omega
      obtain⟨d2,T2,h4,h5⟩:=zIk hid hno f _ _ _ _ _ _ _ _ _ hh (.lev 0) (Nat.zero_le _) (by omega) (by omega) trivial 0 [] (by omega) rfl;have:=zH1 (l:=l) (i:=i+1) (by omega) h4 (by rw[zCn h5];exact h2);rw[this];exact⟨rfl,hw2⟩
     cases h1
    rename_i hne;exact absurd h1 (hne _ _ _ _)
   cases h1
def zRB(l:List Tok)(i:Nat):Prop:=i=l.length∨isW l i [44]=true∨isW l i [41]=true
def zZf{l l':List Tok}{n0 δ i:Nat}(hs:USim l l' n0 δ)(hn:n0≤i)(hi:i≤l.length):qR l' (i+δ)=qR l i:=by
 unfold qR;rcases Nat.lt_or_ge i l.length with hlt|hge
 ·obtain⟨t',h1,h2⟩:=hs.1 i l[i] hn (List.getElem?_eq_getElem hlt);simp only[Tok.b,Prod.mk.injEq] at h2;rw[h1,List.getElem?_eq_getElem hlt];dsimp only;rw[h2.1];rcases Nat.lt_or_ge (i+1) l.length with hlt2|hge2
  ·rw[show i+δ+1=i+1+δ by omega,wM hs.1 (by omega) hlt2]
  rw[show i+δ+1=l.length+δ by omega,hs.end_ _ (by decide) (by decide)];have:isW l (i+1) [58]=false:=by
   cases h:isW l (i+1) [58] with
   |false=>rfl
   |true=>have:=yA h;omega
  rw[this]
 obtain rfl:i=l.length:=by omega
 rw[List.getElem?_eq_none (Nat.le_refl l.length)];cases h:l'[l.length+δ]? with
 |none=>rfl
 |some t =>
  have:=(hs.2.2 t h).1;dsimp only;rw[this]
  rfl
def zZJ{l l':List Tok}{n0 δ i:Nat}(hs:USim l l' n0 δ)(hn:n0≤i)(hi:i≤l.length)(w:List Nat)(h1:w≠[44])(h2:w≠[41]):isW l' (i+δ) w=isW l i w:=by
 rcases Nat.lt_or_ge i l.length with hlt|hge
 ·exact wM hs.1 hn hlt w
 obtain rfl:i=l.length:=by omega
 rw[hs.end_ _ h1 h2];cases h:isW l l.length w with
 |false=>rfl
 |true=>have:=yA h;omega
def zVh{l l':List Tok}{n0 δ i i1:Nat}(hs:USim l l' n0 δ)(hn:n0≤i)(hi:i<l.length)(h:anyX l i=true→zRB l (i+1)):anyX l' (i+δ)=anyX l i:=by
 unfold anyX at h ⊢;rw[wM hs.1 hn hi];cases hw:isW l i [45] with
 |false=>rfl
 |true =>
  simp only[Bool.true_and]
  by_cases he:(zH l i).2.2=0
  ·obtain⟨h1,_⟩:=zDr hs.1 hs.noOp hn (by omega) (by have:=hs.2.1;omega) he;rw[he,h1]
  have:anyX l i=true:=by simp [anyX,hw,he]
  have hst:=h (by rw[hw];simpa using he);have hm:=zLt (l:=l') (i:=i+δ) (by rw[wM hs.1 hn hi];exact hw) (fun t ht=>by
   have key:∀w,isW l (i+1) w=true→(w=[44]∨w=[41])→(t.k=1∨t.k=7)∧(t.s=[44]∨t.s=[41]):=fun w h2 h3=>by
    have hlt:=yA h2;have:=wM hs.1 (by omega:n0≤i+1) hlt w;rw[h2] at this;unfold isW at this;rw[show i+1+δ=i+δ+1 by omega,ht] at this;simp only[Bool.and_eq_true,Bool.or_eq_true,beq_iff_eq] at this;exact⟨this.1,by rw[this.2];exact h3⟩
   rcases hst with h2|h2|h2
   ·rw[show i+δ+1=l.length+δ by omega] at ht;have:=hs.2.2 t ht;exact⟨.inr this.1,this.2⟩
   ·exact key _ h2 (.inl rfl)
   exact key _ h2 (.inr rfl))
  have e1:((zH l i).2.2 != 0)=true:=by simpa using he
  have e2:((zH l' (i+δ)).2.2 != 0)=true:=by simpa using hm
  rw[e1,e2]
def zTy{l l':List Tok}{n0 δ i:Nat}(hs:USim l l' n0 δ)(hn:n0≤i)(hi:i<l.length):notX l' (i+δ)=notX l i:=by
 unfold notX;rw[wM hs.1 hn hi,show i+δ+1=i+1+δ by omega,zZJ hs (by omega) (by omega) _ (by decide) (by decide)]
def zJq {l l':List Tok} {n0 δ i:Nat} (hs:USim l l' n0 δ) (hn:n0≤i) (h:xQ l i=true) :
  xQ l' (i+δ)=true∧(zH l' (i+δ+1)).2.1=(zH l (i+1)).2.1+δ∧(zH l' (i+δ+1)).1.map Node.s=(zH l (i+1)).1.map Node.s:=by
 obtain⟨h1,h2,h3⟩:=zCz h;have hd:=yA h3;obtain⟨e1,e2,e3⟩:=zDr (i:=i+1) hs.1 hs.noOp (by omega) (by omega) (by have:=hs.2.1;omega) h2;have hge:=zFM (l:=l) (i:=i+1) (by omega) h2;rw[show i+δ+1=i+1+δ by omega];refine⟨?_,e2,e3⟩;unfold xQ at h ⊢;simp only[Bool.and_eq_true] at h ⊢;rw[wM hs.1 hn h1,wM hs.1 hn h1,show i+δ+1=i+1+δ by omega,e1,e2,wM hs.1 (by omega) hd];exact⟨h.1,rfl,h3⟩
def zH5 {l l':List Tok} {n0 δ i:Nat} (hs:USim l l' n0 δ) (hn:n0≤i) (hi:i<l.length) (h:xQ l i=false) (hp:isW l i [91]=true∨isW l i [40]=true→(zH l i).2.2=0) :
  xQ l' (i+δ)=false:=by
 by_cases hw:isW l i [91]=true∨isW l i [40]=true
 ·obtain⟨p1,p2⟩:=zWc (by omega) (hp hw) hw;have hlt:=yA p2;have hge:=zFM (l:=l) (i:=i+1) (by omega) p1;obtain⟨e1,e2,e3⟩:=zDr (i:=i+1) hs.1 hs.noOp (by omega) (by omega) (by have:=hs.2.1;omega) p1;unfold xQ;rw[show i+δ+1=i+1+δ by omega,e2,wM hs.1 (by omega) hlt,wT p2 (by decide)];simp
 unfold xQ;rw[wM hs.1 hn hi,wM hs.1 hn hi];have h1:isW l i [91]=false:=by simpa using fun h=>hw (.inl h)
 have h2:isW l i [40]=false:=by simpa using fun h=>hw (.inr h)
 rw[h1,h2];rfl
def zWR {l l':List Tok} {n0 δ:Nat} (hs:USim l l' n0 δ) {pre:List STst} {T T':List Test} (hT:TSim pre T T') {i n k i1 n1:Nat} {T1:List Test}
  (hn:n0≤i) (hr:xQ l i=true) (h:rngX l i n T=.ok k i1 n1 T1):∃T1',rngX l' (i+δ) n T'=.ok (k+pre.length) (i1+δ) n1 T1'∧TSim pre T1 T1':=by
 obtain⟨h1,h2,h3⟩:=zCz hr;have hd:=yA h3;have hge:=zFM (l:=l) (i:=i+1) (by omega) h2;obtain⟨_,e2,e3⟩:=zJq hs hn hr;unfold rngX at h ⊢;rw[e2];split at h
 ·rename_i hb;obtain⟨b1,b2,b3⟩:=zDr (i:=(zH l (i+1)).2.1+1) hs.1 hs.noOp (by omega) (by omega) (by have:=hs.2.1;omega) hb;have hge2:=zFM (l:=l) (i:=(zH l (i+1)).2.1+1) (by omega) hb;rw[show (zH l (i+1)).2.1+δ+1=(zH l (i+1)).2.1+1+δ by omega,if_pos b1,b2];split at h
  ·rename_i hw;have hlt:(zH l ((zH l (i+1)).2.1+1)).2.1<l.length:=by
    simp only[Bool.or_eq_true] at hw;exact hw.elim yA yA
   rw[wM hs.1 (by omega) hlt,wM hs.1 (by omega) hlt,if_pos hw,wM hs.1 hn h1];cases h;refine⟨_,by rw[hT.len,show (zH l ((zH l (i+1)).2.1+1)).2.1+δ+1=(zH l ((zH l (i+1)).2.1+1)).2.1+1+δ by omega],hT.snoc ?_⟩;exact zFu 7 _ _ _ _ _ _ [] _ _ _ e3 b3
  cases h
 cases h
def zOe{l l':List Tok}{n0 δ:Nat}(hs:USim l l' n0 δ){pre:List STst}:∀(f:Nat),
  (∀(i n k i1 n1:Nat) (T T1 T':List Test),UX l f .one i n T=some (.ok k i1 n1 T1)→n0≤i→i≤l.length→zRB l i1→TSim pre T T' →
   ∃g T1',UX l' g .one (i+δ) n T'=some (.ok (k+pre.length) (i1+δ) n1 T1')∧TSim pre T1 T1') ∧
  (∀(i n k i1 n1:Nat) (T T1 T':List Test),UX l f .tests i n T=some (.ok k i1 n1 T1)→n0≤i→i≤l.length→isW l i1 [41]=true→TSim pre T T' →
   ∃g T1',UX l' g .tests (i+δ) n T'=some (.ok (k+pre.length) (i1+δ) n1 T1')∧TSim pre T1 T1') ∧
  (∀(i n:Nat) (ks K:List Nat) (i1 n1:Nat) (T T1 T':List Test),UX l f (.list ks) i n T=some (.oks K i1 n1 T1)→n0≤i→i≤l.length→(i1=l.length∨isW l i1 [41]=true)→TSim pre T T' →
   ∃T1',TSim pre T1 T1'∧∀g r,UX l' g (.list (K.map (·+pre.length))) (i1+δ) n1 T1'=some r→∃g',UX l' g' (.list (ks.map (·+pre.length))) (i+δ) n T'=some r)
 |0=>⟨fun _ _ _ _ _ _ _ _ h=>by simp [UX] at h,fun _ _ _ _ _ _ _ _ h=>by simp [UX] at h,fun _ _ _ _ _ _ _ _ _ h=>by simp [UX] at h⟩
 |f+1=>by
  obtain⟨ihO,ihT,ihL⟩:=zOe hs (pre:=pre) f;refine⟨?_,?_,?_⟩
  ·intro i n k i1 n1 T T1 T' h hn hi hst hT;have hk:=yH _ _ _ _ _ _ h hi;obtain⟨_,k1,k2,k3,k4,k5,k6⟩:=hk;have hlt:i<l.length:=by omega
   rw[UX] at h;split at h
   ·rename_i ha;cases h;refine⟨1,_,?_,hT.snoc (zFu 1 [] [] [] [] false false [] (plW l i) (plW l' (i+δ)) _ rfl rfl)⟩;rw[UX,zVh (i1:=i+1) hs hn hlt (fun _=>hst),if_pos ha,hT.len,show i+δ+1=i+1+δ by omega]
    rfl
   rename_i ha;have ha':anyX l' (i+δ)=false:=by
    rw[zVh (i1:=i1) hs hn hlt (fun h=>absurd h ha)];simpa using ha
   split at h
   ·rename_i hnn;have hnn':=(zTy hs hn hlt).trans hnn;have hw2:i+1<l.length:=by
     simp only[notX,Bool.and_eq_true] at hnn;exact yA hnn.2
    split at h
    ·cases h
    rename_i hn4;split at h
    ·rename_i k0 i0 n0' T0 hh;split at h
     ·rename_i hw;have hlt0:=yA hw;have hk0:=yH _ _ _ _ _ _ hh (by omega);obtain⟨_,q1,q2,q3,q4,q5,q6⟩:=hk0;obtain⟨g,T1',h1,h2⟩:=ihT _ _ _ _ _ _ _ _ hh (by omega) (by omega) hw hT;cases h;refine⟨g+1,_,?_,h2.snoc (zFu 8 [] [] [] [] false false [k0] (plW l i) (plW l' (i+δ)) _ rfl rfl)⟩;rw[UX,ha',if_neg (by simp),if_pos hnn',if_neg hn4,show i+δ+2=i+2+δ by omega,h1];dsimp only;rw[wM hs.1 (by omega) hlt0,if_pos hw,h2.len,show i0+δ+1=i0+1+δ by omega]
      rfl
     cases h
    rename_i hne;exact absurd h (hne _ _ _ _)
   rename_i hnn;have hnn':notX l' (i+δ)=false:=by rw[zTy hs hn hlt];simpa using hnn
   split at h
   ·rename_i hr;obtain⟨hr',_,_⟩:=zJq hs hn hr;obtain⟨T1',h1,h2⟩:=zWR hs hT hn hr (Option.some.inj h);exact⟨1,T1',by rw[UX,ha',if_neg (by simp),hnn',if_neg (by simp),if_pos hr',h1],h2⟩
   rename_i hr;split at h
   ·rename_i op hsg;have hr':xQ l' (i+δ)=false:=zH5 hs hn hlt (by simpa using hr) (fun hw=>by
     exfalso;have:jF l i zBD=none:=by
      have o:∀w,w≠[91]→w≠[40]→isW l i w=false:=fun w w1 w2=>hw.elim (fun h=>wT h (fun e=>w1 e.symm)) (fun h=>wT h (fun e=>w2 e.symm))
      simp [jF,zBD,o]
     rw[this] at hsg;cases hsg)
    obtain⟨T1',h1,h2⟩:=zPn (q:=plW l' (i+δ)) hs hT (by omega) (by omega) (Option.some.inj h);refine⟨1,T1',?_,h2⟩;rw[UX,ha',if_neg (by simp),hnn',if_neg (by simp),hr',if_neg (by simp),zJT hs.1 hn hlt,hsg];dsimp only;rw[show i+δ+1=i+1+δ by omega,h1]
   rename_i hsg;have hp:(zH l i).2.2=0:=by
    have h:=Option.some.inj h;unfold cmpX at h;split at h
    ·assumption
    cases h
   have hr':xQ l' (i+δ)=false:=zH5 hs hn hlt (by simpa using hr) (fun _=>hp);obtain⟨T1',h1,h2⟩:=zPn (q:=plW l' (i+δ)) hs hT hn hi (Option.some.inj h);refine⟨1,T1',?_,h2⟩;rw[UX,ha',if_neg (by simp),hnn',if_neg (by simp),hr',if_neg (by simp),zJT hs.1 hn hlt,hsg];dsimp only;rw[h1]
  ·intro i n k i1 n1 T T1 T' h hn hi hst hT;rw[UX] at h;split at h
   ·rename_i k0 i0 n0' T0 hh;obtain⟨_,q1,q2,q3,q4,q5,q6⟩:=yH _ _ _ _ _ _ hh hi;cases hl:UX l f (.list [k0]) i0 n0' T0 with
    |none=>rw[hl] at h;cases h
    |some r =>
     have hkl:=yH _ _ _ _ _ _ hl q2;rw[hl] at h;cases r with
     |ok k i' n' T'=>exact absurd hkl.1 id
     |pan e i'=>cases h
     |oks K i2 n2 T2 =>
      obtain⟨_,w1,w2,w3,w4,w5,m,w6,w7⟩:=hkl;have hi2:i2=i1:=by
       match K,h with
       |[],h=>cases h;rfl
       |[a],h=>cases h;rfl
       |a::b::c,h=>cases h;rfl
      subst hi2;obtain⟨g1,T1',h1,h2⟩:=ihO _ _ _ _ _ _ _ _ hh hn hi (by
       rcases zFZ hl with h|h
       ·exact .inr (.inl h)
       rw[← h];exact .inr (.inr hst)) hT
      obtain⟨T2',h3,h4⟩:=ihL _ _ _ _ _ _ _ _ _ hl (by omega) q2 (.inr hst) h2;have hlt:=yA hst;obtain⟨g2,h5⟩:=h4 1 (.oks (K.map (·+pre.length)) (i2+δ) n2 T2') (by
       rw[UX,wM hs.1 (by omega) hlt,wT hst (by decide)];rfl)
      have h1':=vJ _ _ _ _ _ _ h1 (max g1 g2) (by omega);have h5':=vJ _ _ _ _ _ _ h5 (max g1 g2) (by omega)
      match K,h,h3,h5' with
      |[],h,_,_=>simp [UC.kl] at w6
      |[a],h,h3,h5' =>
       cases h;exact⟨max g1 g2+1,T2',by rw[UX,h1'];dsimp only;rw[show [k0+pre.length]=[k0].map (·+pre.length) from rfl,h5'];rfl,h3⟩
      |a::b::c,h,h3,h5' =>
       cases h;refine⟨max g1 g2+1,_,by rw[UX,h1'];dsimp only;rw[show [k0+pre.length]=[k0].map (·+pre.length) from rfl,h5'];rw[← h3.len];rfl,h3.snoc (zFu 9 [] [] [] [] false false (a::b::c) (plW l i) (plW l' (i+δ)) _ rfl rfl)⟩
   rename_i hne;exact absurd h (hne _ _ _ _)
  intro i n ks K i1 n1 T T1 T' h hn hi hst hT;rw[UX] at h;split at h
  ·rename_i hc;have hc':=hc;simp only[Bool.and_eq_true] at hc';have hlt:=yA hc'.1;split at h
   ·rename_i k0 i0 n0' T0 hh;obtain⟨_,q1,q2,q3,q4,q5,q6⟩:=yH _ _ _ _ _ _ hh (by omega);obtain⟨g1,T1',h1,h2⟩:=ihO _ _ _ _ _ _ _ _ hh (by omega) (by omega) (by
     rcases zFZ h with h|h
     ·exact .inr (.inl h)
     rw[← h];exact hst.elim .inl (fun h=>.inr (.inr h))) hT
    obtain⟨T2',h3,h4⟩:=ihL _ _ _ _ _ _ _ _ _ h (by omega) q2 hst h2;refine⟨T2',h3,fun g r hg=>?_⟩;obtain⟨g2,h5⟩:=h4 g r hg;have h1':=vJ _ _ _ _ _ _ h1 (max g1 g2) (by omega);have h5':=vJ _ _ _ _ _ _ h5 (max g1 g2) (by omega);refine⟨max g1 g2+1,?_⟩;rw[UX,wM hs.1 hn hlt,show i+δ+1=i+1+δ by omega,zZf hs (by omega) (by omega),if_pos hc,h1'];dsimp only;rw[List.map_append] at h5';exact h5'
   have:=yH _ _ _ _ _ _ h (by omega);exact absurd this.1 id
  cases h;exact⟨T',hT,fun g r hg=>⟨g,hg⟩⟩
abbrev BTok:=Int×List Nat×Val
def wC(c:Nat):Bool:=Nat.ble 97 c&&Nat.ble c 122
def yT(c:Nat):Bool:=Nat.ble 48 c&&Nat.ble c 57
def yY(c:Nat):Bool:=wC c||yT c
def cntW(p:Nat→Bool):List Nat→Nat
 |[]=>0
 |c::r=>if p c then cntW p r+1 else 0
def strN:Bool→List Nat→Nat
 |_,[]=>0
 |esc,c::r=>if (c==34&&!esc)||Nat.blt c 32||Nat.blt 126 c then 0 else strN (c==92&&!esc) r+1
def signs2:List (List Nat):=[[60,61],[62,61],[60,62],[46,46]]
def signs1:List Nat:=[40,41,91,93,44,58,61,60,62,43,45,42,47]
def nth0(s:List Nat)(i:Nat):Nat:=(s[i]?).getD 0
def numN(s:List Nat):Nat :=
 let n:=cntW yT s
 if nth0 s n=46∧yT (nth0 s (n+1)) then n+1+cntW yT (s.drop (n+1)) else n
def VSym(s:List Nat):Val:=⟨5,0,s⟩
def xP(vp:List Nat→Val×Int)(s:List Nat):BTok×Nat×Int :=
 let c:=nth0 s 0
 let own:=(s.drop 1).take (cntW yY (s.drop 1))
 let is:=wC (nth0 s 1)
 let named (t:BTok) (n:Nat):BTok×Nat×Int:=(t,n,if 12<t.2.1.length then 4 else 0)
 if wC c then named (1,s.take (cntW yY s),VZ) (cntW yY s)
 else if yT c then
  let n:=numN s
  let r:=vp (s.take n)
  ((4,s.take n,r.1),n,if r.2=0∨r.2=9 then r.2 else 4)
 else if c=34 then
  let n:=strN false (s.drop 1)
  if nth0 s (n+1)=34 then
   let r:=vp (s.take (n+2))
   ((5,(s.drop 1).take n,r.1),n+2,if r.2=0 then 0 else 4)
  else ((0,[],VZ),0,4)
 else if c=63∧is then named (2,own,VZ) (1+own.length)
 else if c=63 then ((3,[],VZ),1,0)
 else if c=35∧is then named (6,own,VSym own) (1+own.length)
 else if s.take 2 ∈ signs2 then ((7,s.take 2,VZ),2,0)
 else if c ∈ signs1 then ((7,[c],VZ),1,0)
 else ((0,[],VZ),0,4)
def lexB(vp:List Nat→Val×Int):List Nat→Option (List BTok)
 |[]=>some []
 |c::r =>
  if c=10∨c=32 then lexB vp r
  else if c=59 then lexB vp (r.drop (cntW (fun c=>c != 10) r))
  else if (xP vp (c::r)).2.2=0 then
   match lexB vp (r.drop ((xP vp (c::r)).2.1 - 1)) with
   |some l=>some ((xP vp (c::r)).1::l)
   |none=>none
  else none
 termination_by s=>s.length
 decreasing_by all_goals (simp only[List.length_drop,List.length_cons];omega)
def zBl(p:Nat→Bool):∀s,cntW p s≤s.length
 |[]=>Nat.le_refl _
 |c::s=>by
  unfold cntW;have:=zBl p s;split<;>simp<;>omega
def zP8:∀s e,strN e s≤s.length
 |[],e=>Nat.le_refl _
 |c::s,e=>by
  unfold strN;have:=zP8 s (c==92&&!e);split<;>simp<;>omega
def zIQ{s:List Nat}{i:Nat}(h:s.length≤i):nth0 s i=0:=by
 unfold nth0;rw[List.getElem?_eq_none h];rfl
def zQm(s:List Nat):numN s≤s.length:=by
 unfold numN;have h1:=zBl yT s;simp only;split
 ·rename_i h;have h2:=zBl yT (s.drop (cntW yT s+1));rw[List.length_drop] at h2;have h3:cntW yT s+1<s.length:=by
   rcases Nat.lt_or_ge (cntW yT s+1) s.length with h'|h'
   ·exact h'
   rw[zIQ h'] at h;exact absurd h.2 (by decide)
  omega
 exact h1
def zON(vp:List Nat→Val×Int)(c:Nat)(s:List Nat)(h:(xP vp (c::s)).2.2=0):(xP vp (c::s)).2.1≤s.length+1:=by
 have c1:=zBl yY (c::s);have c2:=zBl yY s;have c3:=zQm (c::s);unfold xP at h ⊢;simp only[List.drop_succ_cons,List.drop_zero,List.length_cons] at *;split
 ·simpa using c1
 rename_i h0;rw[if_neg h0] at h;split
 ·simpa using c3
 rename_i h0;rw[if_neg h0] at h;split
 ·rename_i h1;rw[if_pos h1] at h;split
  ·rename_i h2;have:strN false s+1<(c::s).length:=by
    rcases Nat.lt_or_ge (strN false s+1) (c::s).length with h'|h'
    ·exact h'
    rw[zIQ h'] at h2;cases h2
   simp only[List.length_cons] at this;show strN false s+2≤s.length+1;omega
  exact Nat.zero_le _
 rename_i h0;rw[if_neg h0] at h;have c4:((s.take (cntW yY s))).length≤s.length:=by rw[List.length_take];omega
 split
 ·simp only;omega
 split
 ·simp only;omega
 split
 ·simp only;omega
 split
 ·rename_i h2;cases s with
  |nil=>simp [signs2] at h2
  |cons a s=>simp
 split
 ·simp only;omega
 exact Nat.zero_le _
def UXF(l:List Tok)(i:Nat):Option RU:=UX l (4 * (l.length - i)+3) .tests i 0 []
def xS(l:List Tok)(i:Nat):List Test×Nat×Int :=
 match UXF l i with
 |some (.ok _ i' _ T)=>if 30<T.length then ([],i,7) else (T,i',0)
 |some (.pan e i')=>([],i',e)
 |_=>([],0,4)
def zHO{l:List Tok}{i:Nat}(hi:i≤l.length)(h:(xS l i).2.2=0):∃f k n,UX l f .tests i 0 []=some (.ok k (xS l i).2.1 n (xS l i).1)∧(xS l i).1.length≤30:=by
 obtain⟨r,hr⟩:=zD0 (l:=l) (4 * (l.length - i)+3) .tests i 0 [] (by simp [UC.need]) hi;have hk:=yH _ _ _ _ _ _ hr hi;have hr':UXF l i=some r:=hr;unfold xS at h ⊢;rw[hr'] at h ⊢;cases r with
 |ok k i' n T =>
  dsimp only at h ⊢;split at h
  ·cases h
  rename_i h30;rw[if_neg h30];exact⟨_,k,n,hr,by dsimp only;omega⟩
 |oks ks i' n T=>exact absurd hk.1 id
 |pan e i' =>
  have:=hk.2.1;dsimp only at h;omega
def yGx(ks:List Nat):STst:=⟨9,[],[],false,false,xA ks⟩
def yHz(A:List STst)(K:List Nat):List STst :=
 match K with
 |[_]=>A
 |_=>A++[yGx K]
structure Reads (l:List Tok) (T:List Test) (A:List Test) (K:List Nat):Prop where
 one:∃f k i n T0,UX l f .one 0 0 []=some (.ok k i n T0)∧i≤l.length∧∃n',UX l f (.list [k]) i n T0=some (.oks K l.length n' A)
 all:T.map Test.s=yHz (A.map Test.s) K
 ne:K≠[]
 lt:∀k ∈ K,k<A.length
def zTK{l l':List Tok}{a b:List BTok}(h:l'.map Tok.b=a++(l.map Tok.b++b)):SmW l l' 0 a.length:=by
 intro j t _ ht;have hj:=getElem?_lt ht;have h1:(l'.map Tok.b)[j+a.length]?=some t.b:=by
  rw[h,List.getElem?_append_right (by omega),Nat.add_sub_cancel,List.getElem?_append_left (by simpa using hj),List.getElem?_map,ht];rfl
 rw[List.getElem?_map] at h1;cases hl:l'[j+a.length]? with
 |none=>rw[hl] at h1;cases h1
 |some t'=>rw[hl] at h1;exact⟨t',rfl,Option.some.inj h1⟩
structure Ans where
 v:Val
 e:Int
def Ans.c(a:Ans):List Tree:=[.int .u8 a.v.k,.int .i64 a.v.n,.str a.v.s,.int .i64 a.e]
def AZero:Ans:=⟨VZ,0⟩
def getA(kl:List Ans)(i:Nat):Ans:=kl.getD i AZero
def zBi(op:Int):Option Int:=if op=2 then some 7 else if op=3 then some 9 else if op=4 then some 10 else if op=5 then some 11 else if op=6 then some 12 else none
def zFG(x:STst):List (Int×List SNode) :=
 if x.op=7 then [(if x.low then 11 else 12,x.a),(if x.high then 9 else 10,x.b)] else match zBi x.op with
  |some s=>[(s,x.a)]
  |none=>[]
def kidT(al:List Ans)(k:Int):Ans:=if k<0∨k ≥ al.length then AZero else getA al k.toNat
def zAl(al:List Ans)(ks:List Int):List Ans:=if ks=[] then [AZero] else ks.map (kidT al)
structure Sem where
 cmp:Int→List SNode→Ans
 all:Ans→Ans→Ans
 any:Ans→Ans→Ans
 not:Ans→Ans
def zJm(S:Sem)(op:Int)(kl:List Ans):Ans :=
 if op=1 then ⟨⟨4,1,[]⟩,0⟩ else if op=8 then S.not (getA kl 0) else if op=9 then (kl.drop 1).foldl S.any (getA kl 0) else ⟨VZ,2⟩
def zFQ(S:Sem)(x:STst)(al:List Ans):Ans :=
 match (zFG x).map fun p=>S.cmp p.1 p.2 with
 |[a]=>a
 |[a,b]=>S.all a b
 |_=>zJm S x.op (zAl al x.kids)
def zAD(S:Sem)(ts:List STst):Nat→List Ans
 |0=>[]
 |i+1=>zAD S ts i++[match ts[i]? with
  |some x=>zFQ S x (zAD S ts i)
  |none=>AZero]
def zGb(l:List Ans):Ans:=l.getLast?.getD ⟨VZ,2⟩
def zOR(S:Sem)(ts:List STst):Ans:=zGb (zAD S ts ts.length)
def zFo(S:Sem)(ts:List STst):∀i,(zAD S ts i).length=i
 |0=>rfl
 |i+1=>by simp [zAD,zFo S ts i]
def zRo(l:List Ans)(a:Ans):zGb (l++[a])=a:=by simp [zGb]
def WFT(B:List STst):Prop:=∀(i:Nat) x,B[i]?=some x→∀k ∈ x.kids,0≤k∧k<i
theorem WFT.snoc{B:List STst}{x:STst}(h:WFT B)(hx:∀k ∈ x.kids,0≤k∧k<B.length):WFT (B++[x]):=by
 intro i y hy;rcases Nat.lt_or_ge i B.length with hi|hi
 ·rw[List.getElem?_append_left hi] at hy;exact h i y hy
 rw[List.getElem?_append_right hi] at hy;cases hj:i - B.length with
 |zero =>
  rw[hj] at hy;simp only[List.getElem?_cons_zero,Option.some.injEq] at hy;subst hy;intro k hk;have:=hx k hk;omega
 |succ j=>rw[hj] at hy;simp at hy
def VT:Val:=⟨4,1,[]⟩
def VF:Val:=⟨4,0,[]⟩
def VB(v:Val):Prop:=(-9223372036854775808≤v.n∧v.n<9223372036854775808)∧v.s.length<4294967281
def zMg:VB VT:=⟨⟨by decide,by decide⟩,by decide⟩
def zOO:VB VF:=⟨⟨by decide,by decide⟩,by decide⟩
def zAA:VB VZ:=⟨⟨by decide,by decide⟩,by decide⟩
def TB(a:Ans):Prop:=VB a.v∧(a.e≠0∨a.v=VT∨a.v=VF∨a.v=VZ)
def BA(a b:Ans):Ans :=
 if a.e≠0∨a.v=VT then a else if b.e≠0 then b else if b.v=VT then ⟨VT,0⟩ else if a.v=VF∧b.v=VF then ⟨VF,0⟩ else ⟨VZ,0⟩
def zXJ{a b:Ans}(ha:TB a)(hb:TB b):TB (BA a b):=by
 unfold BA;split
 ·exact ha
 split
 ·exact hb
 split
 ·exact⟨zMg,.inr (.inl rfl)⟩
 split
 ·exact⟨zOO,.inr (.inr (.inl rfl))⟩
 exact⟨zAA,.inr (.inr (.inr rfl))⟩
def zMF:∀(l:List Ans) {a:Ans},TB a→(∀b ∈ l,TB b)→TB (l.foldl BA a)
 |[],_,ha,_=>ha
 |b::l,_,ha,h=>zMF l (zXJ ha (h b (.head _))) fun c hc=>h c (List.mem_cons_of_mem _ hc)
def zG9{S:Sem}(hS:∀a b,TB a→TB b→S.any a b=BA a b):∀(l:List Ans) {a:Ans},TB a→(∀b ∈ l,TB b)→l.foldl S.any a=l.foldl BA a
 |[],_,_,_=>rfl
 |b::l,a,ha,h=>by
  have hb:=h b (.head _);rw[List.foldl_cons,List.foldl_cons,hS a b ha hb];exact zG9 hS l (zXJ ha hb) fun c hc=>h c (List.mem_cons_of_mem _ hc)
def WFL(T:List Test):Prop:=WFT (T.map Test.s)
theorem WFL.snoc{T:List Test}{op:Int}{a b:List Node}{low high:Bool}{ks:List Nat}{p:Int×Int}(h:WFL T)(hk:∀k ∈ ks,k<T.length):WFL (T++[xJ op a b low high ks p]):=by
 unfold WFL;rw[List.map_append,List.map_cons,List.map_nil,vZ];refine WFT.snoc h fun k hk'=>?_
 simp only[xA,List.mem_map] at hk';obtain⟨j,hj,rfl⟩:=hk';have:=hk j hj;simp only[List.length_map];omega
def zJg{l:List Tok}{op:Int}{p:Int×Int}{i n k i1 n1:Nat}{T T1:List Test}(h:cmpX l op p i n T=.ok k i1 n1 T1):(WFL T→WFL T1)∧k+1=T1.length:=by
 unfold cmpX at h;split at h
 ·cases h;exact⟨fun hT=>hT.snoc (by simp),by simp⟩
 cases h
def zLH{l:List Tok}:∀(f:Nat) (c:UC) (i n:Nat) (T:List Test) (r:RU),UX l f c i n T=some r→i≤l.length→(∀k ∈ c.kl,k<T.length)→WFL T →
  match r with
  |.ok k i' n' T'=>WFL T'∧(match c with|.one=>k+1=T'.length|_=>True)
  |.oks K i' n' T'=>WFL T'∧(K.length=c.kl.length→T'=T)
  |.pan _ _=>True
 |0,c,i,n,T,r,h,_,_,_=>by simp [UX] at h
 |f+1,.one,i,n,T,r,h,hi,_,hT=>by
  have ih:=zLH (l:=l) f;rw[UX] at h;split at h
  ·cases h;exact⟨hT.snoc (by simp),by simp⟩
  split at h
  ·rename_i hn;simp only[notX,Bool.and_eq_true] at hn;have:=yA hn.2;split at h
   ·cases h;trivial
   cases hh:UX l f .tests (i+2) (n+1) T with
   |none=>rw[hh] at h;cases h
   |some x =>
    have hk:=yH _ _ _ _ _ _ hh (by omega);have hw:=ih _ _ _ _ _ hh (by omega) (by simp [UC.kl]) hT;rw[hh] at h;cases x with
    |ok k i' n' T' =>
     dsimp only at h;split at h
     ·cases h;refine⟨hw.1.snoc (fun j hj=>?_),by simp⟩;simp only[List.mem_singleton] at hj;subst hj;exact hk.2.2.2.2.2.1
     cases h;trivial
    |oks ks i' n' T'=>exact absurd hk.1 id
    |pan e i'=>cases h;trivial
  split at h
  ·have h:=Option.some.inj h;unfold rngX at h;split at h
   ·split at h
    ·cases h;exact⟨hT.snoc (by simp),by simp⟩
    cases h;trivial
   cases h;trivial
  split at h
  ·have h:=Option.some.inj h;cases r with
   |ok k i' n' T'=>exact⟨(zJg h).1 hT,(zJg h).2⟩
   |oks ks i' n' T'=>unfold cmpX at h;split at h<;>cases h
   |pan e i'=>trivial
  have h:=Option.some.inj h;cases r with
  |ok k i' n' T'=>exact⟨(zJg h).1 hT,(zJg h).2⟩
  |oks ks i' n' T'=>unfold cmpX at h;split at h<;>cases h
  |pan e i'=>trivial
 |f+1,.list ks,i,n,T,r,h,hi,hks,hT=>by
  have ih:=zLH (l:=l) f;rw[UX] at h;split at h
  ·rename_i hc;simp only[Bool.and_eq_true] at hc;have:=yA hc.1;cases hh:UX l f .one (i+1) n T with
   |none=>rw[hh] at h;cases h
   |some x =>
    have hk:=yH _ _ _ _ _ _ hh (by omega);have hw:=ih _ _ _ _ _ hh (by omega) (by simp [UC.kl]) hT;rw[hh] at h;cases x with
    |ok k i' n' T' =>
     dsimp only at h;obtain⟨_,q1,q2,q3,q4,q5,q6⟩:=hk;have hks':∀j ∈ ks++[k],j<T'.length:=fun j hj=>by
      rcases List.mem_append.1 hj with hj|hj
      ·have:=hks j hj;omega
      rw[List.mem_singleton.1 hj];exact q5
     have h2:=ih _ _ _ _ _ h q2 hks' hw.1;have hk2:=yH _ _ _ _ _ _ h q2;cases r with
     |ok k i' n' T'=>exact absurd hk2.1 id
     |oks K i' n' T' =>
      refine⟨h2.1,fun hl=>?_⟩;obtain⟨_,_,_,_,_,_,m,hm,_⟩:=hk2;rw[hm] at hl;simp [UC.kl] at hl
     |pan e i'=>trivial
    |oks ks i' n' T'=>exact absurd hk.1 id
    |pan e i'=>cases h;trivial
  cases h;exact⟨hT,fun _=>rfl⟩
 |f+1,.tests,i,n,T,r,h,hi,_,hT=>by
  have ih:=zLH (l:=l) f;rw[UX] at h;cases hh:UX l f .one i n T with
  |none=>rw[hh] at h;cases h
  |some x =>
   have hk:=yH _ _ _ _ _ _ hh hi;have hw:=ih _ _ _ _ _ hh hi (by simp [UC.kl]) hT;rw[hh] at h;cases x with
   |ok k i' n' T' =>
    dsimp only at h;obtain⟨_,q1,q2,q3,q4,q5,q6⟩:=hk;cases hl:UX l f (.list [k]) i' n' T' with
    |none=>rw[hl] at h;cases h
    |some y =>
     have hk2:=yH _ _ _ _ _ _ hl q2;have hw2:=ih _ _ _ _ _ hl q2 (by simp only[UC.kl,List.mem_singleton];rintro _ rfl;exact q5) hw.1;rw[hl] at h;cases y with
     |ok k i' n' T'=>exact absurd hk2.1 id
     |pan e i'=>cases h;trivial
     |oks K i2 n2 T2 =>
      obtain⟨_,_,_,_,_,w5,m,w6,w7⟩:=hk2;have hlt:∀j ∈ K,j<T2.length:=fun j hj=>by
       rw[w6] at hj;simp only[UC.kl,List.cons_append,List.nil_append,List.mem_cons] at hj;rcases hj with rfl|hj
       ·omega
       exact w7 j hj
      match K,h,hlt with
      |[],h,_=>cases h;exact⟨hw2.1.snoc (by simp),trivial⟩
      |[a],h,_=>cases h;exact⟨hw2.1,trivial⟩
      |a::b::c,h,hlt=>cases h;exact⟨hw2.1.snoc hlt,trivial⟩
   |oks ks i' n' T'=>exact absurd hk.1 id
   |pan e i'=>cases h;trivial
theorem Reads.wf{l:List Tok}{T A:List Test}{K:List Nat}(h:Reads l T A K):WFL A∧∀k,K=[k]→k+1=A.length:=by
 obtain⟨f,k,i,n,T0,h1,h2,n',h3⟩:=h.one;have hk:=yH _ _ _ _ _ _ h1 (Nat.zero_le _);have w1:=zLH _ _ _ _ _ _ h1 (Nat.zero_le _) (by simp [UC.kl]) (by simp [WFL,WFT]);have w2:=zLH _ _ _ _ _ _ h3 h2 (by simp only[UC.kl,List.mem_singleton];rintro _ rfl;exact hk.2.2.2.2.2.1) w1.1;have k2:=yH _ _ _ _ _ _ h3 h2;refine⟨w2.1,fun j hj=>?_⟩;obtain⟨_,_,_,_,_,_,m,w6,_⟩:=k2;rw[hj] at w6 w2;simp only[UC.kl,List.cons_append,List.nil_append,List.cons.injEq] at w6;rw[w2.2 (by simp [UC.kl]),w6.1];exact w1.2
structure SemOK (S:Sem):Prop where
 cmp:∀op a,(op=7∨op=8∨op=9∨op=10∨op=11∨op=12)→TB (S.cmp op a)
 all:∀a b,TB a→TB b→TB (S.all a b)
 any:∀a b,TB a→TB b→S.any a b=BA a b
 not:∀a,TB a→TB (S.not a)
def zCh:TB AZero:=⟨zAA,.inr (.inr (.inr rfl))⟩
def zYB{al:List Ans}(h:∀a ∈ al,TB a)(k:Int):TB (kidT al k):=by
 unfold kidT;split
 ·exact zCh
 unfold getA;rw[List.getD_eq_getElem?_getD];cases hi:al[k.toNat]? with
 |none=>exact zCh
 |some a=>exact h a (List.mem_of_getElem? hi)
def zJ6{al:List Ans}(h:∀a ∈ al,TB a)(ks:List Int):∀a ∈ zAl al ks,TB a:=by
 unfold zAl;split
 ·intro a ha;rw[List.mem_singleton.1 ha];exact zCh
 intro a ha;obtain⟨k,_,rfl⟩:=List.mem_map.1 ha;exact zYB h k
def zGx{al:List Ans}(h:∀a ∈ al,TB a)(i:Nat):TB (getA al i):=by
 unfold getA;rw[List.getD_eq_getElem?_getD];cases hi:al[i]? with
 |none=>exact zCh
 |some a=>exact h a (List.mem_of_getElem? hi)
def zSd{op s:Int}(h:zBi op=some s):s=7∨s=8∨s=9∨s=10∨s=11∨s=12:=by
 unfold zBi at h;split at h
 ·cases h;simp
 split at h
 ·cases h;simp
 split at h
 ·cases h;simp
 split at h
 ·cases h;simp
 split at h
 ·cases h;simp
 cases h
def zWK{S:Sem}(hS:SemOK S)(x:STst){al:List Ans}(h:∀a ∈ al,TB a):TB (zFQ S x al):=by
 have rest:TB (zJm S x.op (zAl al x.kids)):=by
  have hk:=zJ6 h x.kids;unfold zJm;split
  ·exact⟨zMg,.inr (.inl rfl)⟩
  split
  ·exact hS.not _ (zGx hk 0)
  split
  ·have hd:∀b ∈ (zAl al x.kids).drop 1,TB b:=fun b hb=>hk b (List.mem_of_mem_drop hb)
   rw[zG9 hS.any _ (zGx hk 0) hd];exact zMF _ (zGx hk 0) hd
  exact⟨zAA,.inl (by simp)⟩
 unfold zFQ zFG;split
 ·rename_i a ha;split at ha
  ·simp at ha
  split at ha
  ·rename_i s hs;simp only[List.map_cons,List.map_nil,List.cons.injEq,and_true] at ha;rw[← ha];exact hS.cmp _ _ (zSd hs)
  simp at ha
 ·rename_i a b ha;split at ha
  ·simp only[List.map_cons,List.map_nil,List.cons.injEq,and_true] at ha;rw[← ha.1,← ha.2];refine hS.all _ _ (hS.cmp _ _ ?_) (hS.cmp _ _ ?_)
   ·cases x.low<;>simp
   cases x.high<;>simp
  split at ha<;>simp at ha
 exact rest
def zGV{S:Sem}(hS:SemOK S)(ts:List STst):∀i,∀a ∈ zAD S ts i,TB a
 |0,a,h=>by simp [zAD] at h
 |i+1,a,h=>by
  rw[zAD] at h;rcases List.mem_append.1 h with h|h
  ·exact zGV hS ts i a h
  rw[List.mem_singleton.1 h];split
  ·exact zWK hS _ (zGV hS ts i)
  exact zCh
def sgn(w:List Nat):BTok:=(7,w,VZ)
variable (vp:List Nat→Val×Int)
def andL{α:Type}(a b:Option (List α)):Option (List α) :=
 match a with
 |some x=>(match b with
  |some y=>some (x++y)
  |none=>none)
 |none=>none
theorem zWN{c:Nat}{r:List Nat}(h1:c ∈ signs1)(h2:(c::r).take 2 ∉ signs2):lexB vp (c::r)=andL (some [sgn [c]]) (lexB vp r):=by
 have hw:xP vp (c::r)=((7,[c],VZ),1,0):=by
  simp only[signs1,List.mem_cons,List.not_mem_nil,or_false] at h1;have key:∀c,wC c=false→yT c=false→c≠34→c≠63→c≠35→c ∈ signs1→(c::r).take 2 ∉ signs2→xP vp (c::r)=((7,[c],VZ),1,0):=by
   intro c a1 a2 a3 a4 a5 a6 a7;unfold xP;dsimp only;have e:nth0 (c::r) 0=c:=rfl;rw[e,if_neg (by rw[a1];simp),if_neg (by rw[a2];simp),if_neg a3,if_neg (fun h=>a4 h.1),if_neg a4,if_neg (fun h=>a5 h.1),if_neg a7,if_pos a6]
  rcases h1 with rfl|rfl|rfl|rfl|rfl|rfl|rfl|rfl|rfl|rfl|rfl|rfl|rfl<;>exact key _ (by decide) (by decide) (by decide) (by decide) (by decide) (by decide) h2
 have hc:c≠10∧c≠32∧c≠59:=by simp [signs1] at h1;omega
 rw[lexB,if_neg (by omega),if_neg (by omega),hw];dsimp only;rw[if_pos rfl,Nat.sub_self,List.drop_zero];cases lexB vp r<;>rfl
theorem no2{c:Nat}{r:List Nat}(h:c≠60∧c≠62∧c≠46):(c::r).take 2 ∉ signs2:=by
 cases r with
 |nil=>simp [signs2]
 |cons d r=>simp [signs2];omega
theorem zWq:lexB vp []=some []:=by rw[lexB]
def zE5{vp:List Nat→Val×Int}{s:List Nat}{i:Nat}{c:Nat}(h:s[i]?=some c)(hc:c=10∨c=32):lexB vp (s.drop i)=lexB vp (s.drop (i+1)):=by
 have hi:=getElem?_lt h;rw[List.getElem?_eq_getElem hi] at h;rw[List.drop_eq_getElem_cons hi,lexB,if_pos (by cases h;exact hc)]
def zKp{p:Nat→Bool}{s:List Nat}{i c:Nat}(h:s[i]?=some c)(hp:p c=true):cntW p (s.drop i)=cntW p (s.drop (i+1))+1:=by
 have hi:=getElem?_lt h;rw[List.getElem?_eq_getElem hi] at h;cases h;rw[List.drop_eq_getElem_cons hi,cntW,if_pos hp]
def zHQ{vp:List Nat→Val×Int}{s:List Nat}{i:Nat}(h:s[i]?=some 59):lexB vp (s.drop i)=lexB vp (s.drop (i+cntW (fun c=>c != 10) (s.drop i))):=by
 rw[zKp h (by decide)];have hi:=getElem?_lt h;rw[List.getElem?_eq_getElem hi] at h;have h':=Option.some.inj h;rw[List.drop_eq_getElem_cons hi,h',lexB,if_neg (by decide),if_pos rfl,List.drop_drop]
 congr 2
 omega
def zM5 {vp:List Nat→Val×Int} {s:List Nat} {i c:Nat} (h:s[i]?=some c) (h1:c≠10) (h2:c≠32) (h3:c≠59) (hw:(xP vp (s.drop i)).2.2=0) (hn:1≤(xP vp (s.drop i)).2.1) :
  lexB vp (s.drop i)=andL (some [(xP vp (s.drop i)).1]) (lexB vp (s.drop (i+(xP vp (s.drop i)).2.1))):=by
 have hi:=getElem?_lt h;rw[List.getElem?_eq_getElem hi] at h;have h':=Option.some.inj h;rw[List.drop_eq_getElem_cons hi,h'] at hw hn ⊢;rw[lexB,if_neg (by omega),if_neg h3,if_pos hw,List.drop_drop];rw[show i+1+((xP vp (c::s.drop (i+1))).2.1 - 1)=i+(xP vp (c::s.drop (i+1))).2.1 by omega];cases lexB vp (s.drop (i+(xP vp (c::s.drop (i+1))).2.1))<;>rfl
def zO4{vp:List Nat→Val×Int}{s:List Nat}{i c:Nat}(h:s[i]?=some c)(h1:c≠10)(h2:c≠32)(h3:c≠59)(hw:(xP vp (s.drop i)).2.2≠0):lexB vp (s.drop i)=none:=by
 have hi:=getElem?_lt h;rw[List.getElem?_eq_getElem hi] at h;have h':=Option.some.inj h;rw[List.drop_eq_getElem_cons hi,h'] at hw ⊢;rw[lexB,if_neg (by omega),if_neg h3,if_neg hw]
def NoW:BTok×Nat×Int:=((0,[],VZ),0,4)
def zLB(vp:List Nat→Val×Int)(s:List Nat):BTok×Nat×Int :=
 if nth0 s (strN false (s.drop 1)+1)=34∧(vp (s.take (strN false (s.drop 1)+2))).2=0 then
  ((5,(s.drop 1).take (strN false (s.drop 1)),(vp (s.take (strN false (s.drop 1)+2))).1),strN false (s.drop 1)+2,0) else NoW
def numX(vp:List Nat→Val×Int)(s:List Nat):BTok×Nat×Int :=
 ((4,s.take (numN s),(vp (s.take (numN s))).1),numN s,if (vp (s.take (numN s))).2=0∨(vp (s.take (numN s))).2=9 then (vp (s.take (numN s))).2 else 4)
def sgnX(s:List Nat):BTok×Nat×Int :=
 if s.take 2 ∈ signs2 then ((7,s.take 2,VZ),2,0)
 else if nth0 s 0 ∈ signs1 then ((7,[nth0 s 0],VZ),1,0)
 else NoW
def ownX(s:List Nat):List Nat:=if wC (nth0 s 1) then (s.drop 1).take (cntW yY (s.drop 1)) else []
def errL(s:List Nat):Int:=if 12<s.length then 4 else 0
def jH(vp:List Nat→Val×Int)(s:List Nat):BTok×Nat×Int :=
 if wC (nth0 s 0) then ((1,s.take (cntW yY s),VZ),cntW yY s,errL (s.take (cntW yY s)))
 else if yT (nth0 s 0) then numX vp s
 else if nth0 s 0=34 then zLB vp s
 else if nth0 s 0=63∧wC (nth0 s 1)=true then ((2,ownX s,VZ),1+(ownX s).length,errL (ownX s))
 else if nth0 s 0=63 then ((3,[],VZ),1,0)
 else if nth0 s 0=35∧wC (nth0 s 1)=true then ((6,ownX s,VSym (ownX s)),1+(ownX s).length,errL (ownX s))
 else sgnX s
def zOd(vp:List Nat→Val×Int)(s:List Nat):(jH vp s).2.2=(xP vp s).2.2∧((xP vp s).2.2=0→jH vp s=xP vp s):=by
 unfold jH xP;dsimp only;split
 ·exact⟨rfl,fun _=>rfl⟩
 split
 ·exact⟨rfl,fun _=>rfl⟩
 split
 ·unfold zLB
  by_cases h1:nth0 s (strN false (s.drop 1)+1)=34
  ·by_cases h2:(vp (s.take (strN false (s.drop 1)+2))).2=0
   ·rw[if_pos ⟨h1,h2⟩,if_pos h1,if_pos h2];exact⟨rfl,fun _=>rfl⟩
   rw[if_neg (fun h=>h2 h.2),if_pos h1,if_neg h2];exact⟨rfl,fun h=>by cases h⟩
  rw[if_neg (fun h=>h1 h.1),if_neg h1];exact⟨rfl,fun h=>by cases h⟩
 by_cases h3:nth0 s 0=63∧wC (nth0 s 1)=true
 ·have e:ownX s=(s.drop 1).take (cntW yY (s.drop 1)):=by unfold ownX;rw[if_pos h3.2]
  rw[if_pos h3,if_pos h3,e];exact⟨rfl,fun _=>rfl⟩
 rw[if_neg h3,if_neg h3];split
 ·exact⟨rfl,fun _=>rfl⟩
 by_cases h4:nth0 s 0=35∧wC (nth0 s 1)=true
 ·have e:ownX s=(s.drop 1).take (cntW yY (s.drop 1)):=by unfold ownX;rw[if_pos h4.2]
  rw[if_pos h4,if_pos h4,e];exact⟨rfl,fun _=>rfl⟩
 rw[if_neg h4,if_neg h4];unfold sgnX NoW;exact⟨rfl,fun _=>rfl⟩
def zNc(vp:List Nat→Val×Int)(c:Nat)(r:List Nat)(h:(xP vp (c::r)).2.2=0):1≤(xP vp (c::r)).2.1:=by
 have e0:nth0 (c::r) 0=c:=rfl;unfold xP at h ⊢;rw[e0] at h ⊢;dsimp only at h ⊢;split
 ·rename_i h1;have:yY c=true:=by simp [yY,h1]
  dsimp only;rw[cntW,if_pos this];omega
 rename_i h1;rw[if_neg h1] at h;split
 ·rename_i h2;have:1≤cntW yT (c::r):=by rw[cntW,if_pos h2];omega
  have:cntW yT (c::r)≤numN (c::r):=by unfold numN;simp only;split<;>omega
  dsimp only;omega
 rename_i h2;rw[if_neg h2] at h;split
 ·rename_i h3;rw[if_pos h3] at h;split
  ·dsimp only;omega
  rename_i h4;rw[if_neg h4] at h;cases h
 rename_i h3;rw[if_neg h3] at h;split
 ·dsimp only;omega
 rename_i h4;rw[if_neg h4] at h;split
 ·exact Nat.le_refl _
 rename_i h5;rw[if_neg h5] at h;split
 ·dsimp only;omega
 rename_i h6;rw[if_neg h6] at h;split
 ·dsimp only;omega
 rename_i h7;rw[if_neg h7] at h;split
 ·dsimp only;omega
 rename_i h8;rw[if_neg h8] at h;cases h
def zLP{α:Type}(a b:List α)(x:Option (List α)):andL (some a) (andL (some b) x)=andL (some (a++b)) x:=by
 cases x with
 |none=>rfl
 |some y=>simp [andL]
def zMy{α:Type}(a:Option (List α)):andL a none=none:=by cases a<;>rfl
def zWB{α:Type}(x:Option (List α)):andL (some []) x=x:=by cases x<;>rfl
def RX.T:RX→List Node
 |.ok _ _ _ T=>T
 |.pan _ _ _ T=>T
def zA6{l:List Tok}:∀(f:Nat) (c:Cmd) (i d:Nat) (T:List Node) (r:RX),PX l f c i d T=some r→T.length≤r.T.length
 |0,c,i,d,T,r,h=>by simp [PX] at h
 |f+1,c,i,d,T,r,h=>by
  have ih:=zA6 (l:=l) f;cases c with
  |lev n =>
   rw[PX] at h;split at h
   ·split at h
    ·split at h
     ·cases h;exact Nat.le_refl _
     split at h
     ·rename_i hh;cases h;have:=ih _ _ _ _ _ hh;simp only[RX.T,List.length_append,List.length_cons,List.length_nil] at this ⊢;omega
     exact ih _ _ _ _ _ h
    exact ih _ _ _ _ _ h
   split at h
   ·split at h
    ·rename_i hh;have h1:=ih _ _ _ _ _ hh;have h2:=ih _ _ _ _ _ h;simp only[RX.T] at h1;omega
    exact ih _ _ _ _ _ h
   split at h
   ·cases h;exact Nat.le_refl _
   split at h
   ·cases h;simp [RX.T]
   split at h
   ·cases h;simp [RX.T]
   split at h
   ·cases h;simp [RX.T]
   split at h
   ·split at h
    ·split at h
     ·split at h
      ·cases h;exact Nat.le_refl _
      exact ih _ _ _ _ _ h
     cases h;exact Nat.le_refl _
    split at h
    ·cases h;simp [RX.T]
    cases h;exact Nat.le_refl _
   split at h
   ·split at h
    ·cases h;exact Nat.le_refl _
    split at h
    ·rename_i hh;have:=ih _ _ _ _ _ hh;split at h
     ·cases h;exact this
     cases h;exact this
    exact ih _ _ _ _ _ h
   cases h;exact Nat.le_refl _
  |row n a =>
   rw[PX] at h;split at h
   ·cases h;exact Nat.le_refl _
   split at h
   ·rename_i hh;have h1:=ih _ _ _ _ _ hh;simp only[RX.T] at h1;split at h
    ·have:=ih _ _ _ _ _ h;simp only[List.length_append,List.length_cons,List.length_nil] at this;omega
    cases h;simp only[RX.T,List.length_append,List.length_cons,List.length_nil];omega
   exact ih _ _ _ _ _ h
  |call op least most kids p =>
   rw[PX] at h;split at h
   ·rename_i hh;have h1:=ih _ _ _ _ _ hh;simp only[RX.T] at h1;split at h
    ·cases h;exact h1
    split at h
    ·have:=ih _ _ _ _ _ h;omega
    split at h
    ·cases h;simp only[RX.T,List.length_append,List.length_cons,List.length_nil];omega
    cases h;exact h1
   exact ih _ _ _ _ _ h
def zBp{T T':List Node}(h:T.length≤T'.length):T≠[]→T'≠[]:=fun h1 h2=>h1 (List.length_eq_zero_iff.1 (by rw[h2] at h;simpa using h))
def NOK(l:List Tok)(x:Node):Prop:=VB x.v∧x.kids.l.length≤l.length+2
def Cmd.kn(i:Nat):Cmd→Prop
 |.call _ _ _ kids _=>kids.length≤i
 |_=>True
def GX(l:List Tok)(i:Nat):RX→Prop
 |.ok _ i' _ T=>i≤i'∧i'≤l.length∧∀x ∈ T,NOK l x
 |.pan _ _ _ _=>True
theorem GX.mono{l:List Tok}{i j:Nat}{r:RX}(h:GX l i r)(hj:j≤i):GX l j r:=by
 cases r with
 |ok a i' d T=>exact⟨Nat.le_trans hj h.1,h.2⟩
 |pan=>trivial
def zBW{l:List Tok}{T:List Node}{y:Node}(h:∀x ∈ T,NOK l x)(hy:NOK l y):∀x ∈ T++[y],NOK l x:=by
 intro x hx;rcases List.mem_append.1 hx with hx|hx
 ·exact h x hx
 rw[List.mem_singleton.1 hx];exact hy
def zBQ{l:List Tok}{op:Int}{v:Val}{name:List Nat}{kids:List Int}{p:Int×Int}(hv:VB v)(hk:kids.length≤l.length+2):NOK l (xK op v name kids p):=by
 refine⟨hv,?_⟩;unfold xK;dsimp only;split
 ·simp
 exact hk
def zZt{s:List Nat}{v:Val}(h:wV s zB8=some v):VB v:=by
 unfold zB8 at h;simp only[wV] at h;split at h
 ·cases h;exact zMg
 split at h
 ·cases h;exact zOO
 split at h
 ·cases h;exact zAA
 cases h
def zVw{l:List Tok}(hl:∀t ∈ l,VB t.v):∀(f:Nat) (c:Cmd) (i d:Nat) (T:List Node) (r:RX),PX l f c i d T=some r→i≤l.length→(∀x ∈ T,NOK l x)→c.kn i→GX l i r
 |0,c,i,d,T,r,h,_,_,_=>by simp [PX] at h
 |f+1,c,i,d,T,r,h,hi,hT,hc=>by
  have ih:=zVw (l:=l) hl f;cases c with
  |lev n =>
   rw[PX] at h;split at h
   ·split at h
    ·rename_i hw;have hlt:=yA hw;split at h
     ·cases h;trivial
     split at h
     ·rename_i hh;cases h;have:=ih _ _ _ _ _ hh (by omega) hT trivial;exact⟨by have:=this.1;omega,this.2.1,zBW this.2.2 (zBQ zAA (by simp))⟩
     exact(ih _ _ _ _ _ h (by omega) hT trivial).mono (by omega)
    exact ih _ _ _ _ _ h hi hT trivial
   split at h
   ·split at h
    ·rename_i hh;have h1:=ih _ _ _ _ _ hh hi hT trivial;have h2:=ih _ _ _ _ _ h h1.2.1 h1.2.2 trivial;exact h2.mono h1.1
    exact ih _ _ _ _ _ h hi hT trivial
   split at h
   ·cases h;trivial
   rename_i t ht;have hlt:=getElem?_lt ht;have hv:VB t.v:=hl t (List.mem_of_getElem? ht);split at h
   ·cases h;exact⟨by omega,by omega,zBW hT (zBQ hv (by simp))⟩
   split at h
   ·cases h;exact⟨by omega,by omega,zBW hT (zBQ zAA (by simp))⟩
   split at h
   ·cases h;exact⟨by omega,by omega,zBW hT (zBQ zAA (by simp))⟩
   split at h
   ·split at h
    ·split at h
     ·rename_i hw;have hlt2:=yA hw;split at h
      ·cases h;trivial
      exact(ih _ _ _ _ _ h (by omega) hT (by simp [Cmd.kn])).mono (by omega)
     cases h;trivial
    split at h
    ·rename_i v hf;cases h;exact⟨by omega,by omega,zBW hT (zBQ (zZt hf) (by simp))⟩
    cases h;trivial
   split at h
   ·split at h
    ·cases h;trivial
    split at h
    ·rename_i hh;have:=ih _ _ _ _ _ hh (by omega) hT trivial;split at h
     ·rename_i hw;have hlt2:=yA hw;cases h;exact⟨by have:=this.1;omega,by omega,this.2.2⟩
     cases h;trivial
    exact(ih _ _ _ _ _ h (by omega) hT trivial).mono (by omega)
   cases h;trivial
  |row n a =>
   rw[PX] at h;split at h
   ·cases h;exact⟨Nat.le_refl _,hi,hT⟩
   rename_i hx;have hlt:=zBB hx;split at h
   ·rename_i hh;have h1:=ih _ _ _ _ _ hh (by omega) hT trivial;have hk:∀(a b:Int),[a,b].length≤l.length+2:=fun a b=>by simp
    split at h
    ·have:=ih _ _ _ _ _ h h1.2.1 (zBW h1.2.2 (zBQ zAA (hk _ _))) trivial;exact this.mono (by have:=h1.1;omega)
    cases h;exact⟨by have:=h1.1;omega,h1.2.1,zBW h1.2.2 (zBQ zAA (hk _ _))⟩
   exact(ih _ _ _ _ _ h (by omega) hT trivial).mono (by omega)
  |call op least most kids p =>
   rw[PX] at h;have hc:kids.length≤i:=hc;split at h
   ·rename_i hh;have h1:=ih _ _ _ _ _ hh hi hT trivial;have hk:∀a:Int,(kids++[a]).length≤l.length+2:=fun a=>by simp;omega
    split at h
    ·cases h;trivial
    split at h
    ·rename_i hw;have hlt2:=yA hw;have:=ih _ _ _ _ _ h (by omega) h1.2.2 (by show (kids++[_]).length≤_;have:=h1.1;simp;omega);exact this.mono (by have:=h1.1;omega)
    split at h
    ·rename_i hw;have hlt2:=yA hw;cases h;exact⟨by have:=h1.1;omega,by omega,zBW h1.2.2 (zBQ zAA (hk _))⟩
    cases h;trivial
   exact ih _ _ _ _ _ h hi hT trivial
def zG1{l:List Tok}(hl:∀t ∈ l,VB t.v){i:Nat}(hi:i≤l.length):(∀x ∈ (zH l i).1,NOK l x)∧(zH l i).1.length≤60:=by
 obtain⟨r,hr⟩:=zDQ hi;have hr2:=hr;unfold PXF at hr2;have:=zVw hl _ _ _ _ _ _ hr2 hi (by simp) trivial;unfold zH;rw[hr];cases r with
 |ok a i' d' T =>
  dsimp only;split
  ·simp
  exact⟨this.2.2,by dsimp only;omega⟩
 |pan e i' d' T=>simp
structure TNK (l:List Tok) (x:Test):Prop where
 a:∃L,x.a=slX L∧L.length≤60∧∀y ∈ L,NOK l y
 b:∃L,x.b=slX L∧L.length≤60∧∀y ∈ L,NOK l y
 kids:x.kids.l.length≤l.length+1
def zD1{l:List Tok}{op:Int}{a b:List Node}{low high:Bool}{ks:List Nat}{p:Int×Int}(ha:(∀x ∈ a,NOK l x)∧a.length≤60)(hb:(∀x ∈ b,NOK l x)∧b.length≤60)(hk:ks.length≤l.length+1):TNK l (xJ op a b low high ks p) :=
 ⟨⟨a,rfl,ha.2,ha.1⟩,⟨b,rfl,hb.2,hb.1⟩,by simp only[xJ,zKy,xA,List.length_map];exact hk⟩
def zD4{l:List Tok}{T:List Test}{y:Test}(h:∀x ∈ T,TNK l x)(hy:TNK l y):∀x ∈ T++[y],TNK l x:=by
 intro x hx;rcases List.mem_append.1 hx with hx|hx
 ·exact h x hx
 rw[List.mem_singleton.1 hx];exact hy
def GU(l:List Tok):RU→Prop
 |.ok _ _ _ T=>∀x ∈ T,TNK l x
 |.oks _ _ _ T=>∀x ∈ T,TNK l x
 |.pan _ _=>True
def zDB(l:List Tok):(∀x ∈ ([]:List Node),NOK l x)∧([]:List Node).length≤60:=⟨by simp,by simp⟩
def zPo{l:List Tok}(hl:∀t ∈ l,VB t.v){op:Int}{p:Int×Int}{i n:Nat}{T:List Test}(hi:i≤l.length)(hT:∀x ∈ T,TNK l x):GU l (cmpX l op p i n T):=by
 unfold cmpX;split
 ·exact zD4 hT (zD1 (zG1 hl hi) (zDB l) (by simp))
 trivial
def zVQ{l:List Tok}(hl:∀t ∈ l,VB t.v){i n:Nat}{T:List Test}(h:xQ l i=true)(hT:∀x ∈ T,TNK l x):GU l (rngX l i n T):=by
 obtain⟨h1,h2,h3⟩:=zCz h;have h4:=yA h3;unfold rngX;split
 ·split
  ·exact zD4 hT (zD1 (zG1 hl (by omega)) (zG1 hl (by omega)) (by simp))
  trivial
 trivial
def zLw{l:List Tok}(hl:∀t ∈ l,VB t.v):∀(f:Nat) (c:UC) (i n:Nat) (T:List Test) (r:RU),UX l f c i n T=some r→i≤l.length→(∀x ∈ T,TNK l x)→c.kl.length≤i→GU l r
 |0,c,i,n,T,r,h,_,_,_=>by simp [UX] at h
 |f+1,.one,i,n,T,r,h,hi,hT,hc=>by
  have ih:=zLw (l:=l) hl f;rw[UX] at h;split at h
  ·cases h;exact zD4 hT (zD1 (zDB l) (zDB l) (by simp))
  split at h
  ·rename_i hn;simp only[notX,Bool.and_eq_true] at hn;have:=yA hn.2;split at h
   ·cases h;trivial
   cases hh:UX l f .tests (i+2) (n+1) T with
   |none=>rw[hh] at h;cases h
   |some x =>
    have hw:=ih _ _ _ _ _ hh (by omega) hT (by simp [UC.kl]);rw[hh] at h;cases x with
    |ok k i' n' T' =>
     dsimp only at h;split at h
     ·cases h;exact zD4 hw (zD1 (zDB l) (zDB l) (by simp))
     cases h;trivial
    |oks ks i' n' T'=>cases h;exact hw
    |pan e i'=>cases h;trivial
  split at h
  ·rename_i hr;have h:=Option.some.inj h;subst h;exact zVQ hl hr hT
  split at h
  ·rename_i op hs;have h:=Option.some.inj h;subst h;have:=zJW hs;exact zPo hl (by omega) hT
  have h:=Option.some.inj h;subst h;exact zPo hl hi hT
 |f+1,.list ks,i,n,T,r,h,hi,hT,hc=>by
  have ih:=zLw (l:=l) hl f;rw[UX] at h;split at h
  ·rename_i hcm;simp only[Bool.and_eq_true] at hcm;have:=yA hcm.1;cases hh:UX l f .one (i+1) n T with
   |none=>rw[hh] at h;cases h
   |some x =>
    have hk:=yH _ _ _ _ _ _ hh (by omega);have hw:=ih _ _ _ _ _ hh (by omega) hT (by simp [UC.kl]);rw[hh] at h;cases x with
    |ok k i' n' T' =>
     dsimp only at h;obtain⟨_,q1,q2,q3,q4,q5,q6⟩:=hk;have hc:ks.length≤i:=hc;exact ih _ _ _ _ _ h q2 hw (by show (ks++[k]).length≤i';simp;omega)
    |oks ks i' n' T'=>exact absurd hk.1 id
    |pan e i'=>cases h;trivial
  cases h;exact hT
 |f+1,.tests,i,n,T,r,h,hi,hT,hc=>by
  have ih:=zLw (l:=l) hl f;rw[UX] at h;cases hh:UX l f .one i n T with
  |none=>rw[hh] at h;cases h
  |some x =>
   have hk:=yH _ _ _ _ _ _ hh hi;have hw:=ih _ _ _ _ _ hh hi hT (by simp [UC.kl]);rw[hh] at h;cases x with
   |ok k i' n' T' =>
    dsimp only at h;obtain⟨_,q1,q2,q3,q4,q5,q6⟩:=hk;cases hl2:UX l f (.list [k]) i' n' T' with
    |none=>rw[hl2] at h;cases h
    |some y =>
     have hk2:=yH _ _ _ _ _ _ hl2 q2;have hw2:=ih _ _ _ _ _ hl2 q2 hw (by show 1≤i';omega);rw[hl2] at h;cases y with
     |ok k i' n' T'=>exact absurd hk2.1 id
     |pan e i'=>cases h;trivial
     |oks K i2 n2 T2 =>
      obtain⟨_,w1,w2,w3,w4,w5,m,w6,w7⟩:=hk2;have hKl:K.length≤l.length+1:=by
       have e:UC.ks (.list [k])=1:=rfl;rw[e] at w4;omega
      match K,h,hKl with
      |[],h,hKl=>cases h;exact zD4 hw2 (zD1 (zDB l) (zDB l) (by simp))
      |[a],h,hKl=>cases h;exact hw2
      |a::b::c,h,hKl=>cases h;exact zD4 hw2 (zD1 (zDB l) (zDB l) hKl)
   |oks ks i' n' T'=>exact absurd hk.1 id
   |pan e i'=>cases h;trivial
def zRW{l:List Tok}(hl:∀t ∈ l,VB t.v)(h:(xS l 0).2.2=0):(∀x ∈ (xS l 0).1,TNK l x)∧(xS l 0).1.length≤30:=by
 obtain⟨f,k,n,h1,h2⟩:=zHO (l:=l) (Nat.zero_le _) h;exact⟨zLw hl _ _ _ _ _ _ h1 (Nat.zero_le _) (by simp) (by simp [UC.kl]),h2⟩
def yAI{vp:List Nat→Val×Int}(hvp:∀x,VB (vp x).1)(s:List Nat)(h:(xP vp s).2.2=0):VB (xP vp s).1.2.2:=by
 unfold xP at h ⊢;dsimp only at h ⊢;split
 ·exact zAA
 split
 ·exact hvp _
 split
 ·split
  ·exact hvp _
  exact zAA
 split
 ·exact zAA
 split
 ·exact zAA
 split
 ·rename_i h1 h2 h3 h4 h5 h6;rw[if_neg h1,if_neg h2,if_neg h3,if_neg h4,if_neg h5,if_pos h6] at h;dsimp only at h;refine⟨⟨by simp [VSym],by simp [VSym]⟩,?_⟩
  show (List.take _ _).length<_
  by_cases h7:12<(List.take (cntW yY (List.drop 1 s)) (List.drop 1 s)).length
  ·rw[if_pos h7] at h;cases h
  omega
 split
 ·exact zAA
 split
 ·exact zAA
 exact zAA
def zQF{vp:List Nat→Val×Int}(hvp:∀x,VB (vp x).1):∀(n:Nat) (s:List Nat),s.length≤n→∀B,lexB vp s=some B→(∀b ∈ B,VB b.2.2)∧B.length≤s.length
 |_,[],_,B,h=>by
  rw[lexB] at h;cases h;exact⟨by simp,by simp⟩
 |0,c::r,hn,B,h=>by simp at hn
 |n+1,c::r,hn,B,h=>by
  have hn:r.length≤n:=by simpa using hn
  have ih:=zQF (vp:=vp) hvp n;have dl:∀k,(r.drop k).length≤n:=fun k=>by rw[List.length_drop];omega
  have dl2:∀k,(r.drop k).length≤r.length:=fun k=>by rw[List.length_drop];omega
  rw[lexB] at h;simp only[List.length_cons];split at h
  ·have:=ih r hn B h;exact⟨this.1,by omega⟩
  split at h
  ·have:=ih _ (dl _) B h;exact⟨this.1,by have:=this.2;have:=dl2 (cntW (fun c=>c != 10) r);omega⟩
  split at h
  ·rename_i hw;split at h
   ·rename_i l hl;have:=ih _ (dl _) l hl;cases h;refine⟨fun b hb=>?_,?_⟩
    ·rcases List.mem_cons.1 hb with rfl|hb
     ·exact yAI hvp _ hw
     exact this.1 b hb
    have h2:=this.2;have:=dl2 ((xP vp (c::r)).2.1 - 1);simp only[List.length_cons];omega
   cases h
  cases h
def zMk{vp:List Nat→Val×Int}(hvp:∀x,VB (vp x).1){s:List Nat}{L:List Tok}(h:lexB vp s=some (L.map Tok.b)):(∀t ∈ L,VB t.v)∧L.length≤s.length:=by
 obtain⟨h1,h2⟩:=zQF hvp s.length s (Nat.le_refl _) _ h;exact⟨fun t ht=>h1 _ (List.mem_map.2 ⟨t,ht,rfl⟩),by simpa using h2⟩
end Go.Ab
