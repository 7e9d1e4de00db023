/- Lemmas. -/
import Derived.Test.YtdbfacakphncfaaGreatDoorG02
set_option maxRecDepth 1000000
set_option maxHeartbeats 4000000
set_option linter.unusedSimpArgs false
set_option linter.unusedVariables false
namespace Go.Ab
structure Tok where
 k:Int
 s:List Nat
 v:Val
 line:Int
 col:Int
def Tok.c(t:Tok):List Tree:=[.int .u8 t.k,.str t.s,.int .u8 t.v.k,.int .i64 t.v.n,.str t.v.s,.int .i64 t.line,.int .i64 t.col]
def Tok.b(t:Tok):Int×List Nat×Val:=(t.k,t.s,t.v)
def isW(l:List Tok)(i:Nat)(w:List Nat):Bool :=
 match l[i]? with
 |some t=>(t.k==1||t.k==7)&&t.s==w
 |none=>false
def plW(l:List Tok)(i:Nat):Int×Int :=
 match l[i]? with
 |some t=>(t.line,t.col)
 |none=>(0,0)
inductive RX where
 |ok (i at_ deep:Nat) (T:List Node)
 |pan (e:Int) (at_ deep:Nat) (T:List Node)
def opsX:Nat→List (List Nat×Int)
 |0=>[([111,114],4)]
 |1=>[([97,110,100],5)]
 |3=>[([61],7),([60,62],8),([60],9),([60,61],10),([62],11),([62,61],12)]
 |4=>[([43],13),([45],14)]
 |5=>[([42],15),([47],16)]
 |_=>[]
def zHY(n:Nat):Bool:=n != 3
def wL(l:List Tok)(i:Nat):List (List Nat×Int)→Int
 |[]=>0
 |o::os=>if isW l i o.1 then o.2 else wL l i os
def zCI:List (List Nat×(Int×Nat×Nat)) :=
 [([97,98,115],18,1,1),([109,105,110],19,1,8),([109,97,120],20,1,8),([109,111,100],21,2,2),([108,101,110,103,116,104],22,1,1),
  ([117,112,112,101,114],23,1,1),([99,111,110,116,97,105,110,115],24,2,2),([115,116,97,114,116,115],25,2,2),([105,102],26,3,3)]
def zDh:List (List Nat×Val) :=
 [([116,114,117,101],⟨4,1,[]⟩),([102,97,108,115,101],⟨4,0,[]⟩),([110,117,108,108],⟨0,0,[]⟩)]
def kN{α:Type}(w:List Nat):List (List Nat×α)→Option α
 |[]=>none
 |e::es=>if e.1=w then some e.2 else kN w es
def vD(op:Int)(v:Val)(name:List Nat)(kids:List Int)(p:Int×Int):Node :=
 ⟨op,v,name,if kids=[] then ⟨true,true,[]⟩ else ⟨false,false,kids⟩,p.1,p.2⟩
def VZ:Val:=⟨0,0,[]⟩
def wX(n:Nat):List Nat:=if n=2 then [110,111,116] else [45]
def oX(n:Nat):Int:=if n=2 then 6 else 17
inductive Cmd where
 |lev (n:Nat)
 |row (n a:Nat)
 |call (op:Int) (least most:Nat) (kids:List Int) (p:Int×Int)
def PX(l:List Tok):Nat→Cmd→Nat→Nat→List Node→Option RX
 |0,_,_,_,_=>none
 |f+1,.lev n,i,d,T =>
  if n=2∨n=6 then
   if isW l i (wX n) then
    if d=12 then some (.pan 12 i d T) else
    match PX l f (.lev n) (i+1) (d+1) T with
    |some (.ok a i' d' T')=>some (.ok T'.length i' (d' - 1) (T'++[vD (oX n) VZ [] [(a:Int)] (plW l i)]))
    |r=>r
   else PX l f (.lev (n+1)) i d T
  else if n<7 then
   match PX l f (.lev (n+1)) i d T with
   |some (.ok a i' d' T')=>PX l f (.row n a) i' d' T'
   |r=>r
  else
   match l[i]? with
   |none=>some (.pan 4 i d T)
   |some t =>
    if t.k=4∨t.k=5∨t.k=6 then some (.ok T.length (i+1) d (T++[vD 1 t.v [] [] (t.line,t.col)]))
    else if t.k=2 then some (.ok T.length (i+1) d (T++[vD 2 VZ t.s [] (t.line,t.col)]))
    else if t.k=3 then some (.ok T.length (i+1) d (T++[vD 3 VZ [] [] (t.line,t.col)]))
    else if t.k=1 then
     match kN t.s zCI with
     |some (op,least,most) =>
      if isW l (i+1) [40] then
       if d=12 then some (.pan 12 (i+1) d T) else PX l f (.call op least most [] (t.line,t.col)) (i+2) (d+1) T
      else some (.pan 4 (i+1) d T)
     |none=>match kN t.s zDh with
      |some v=>some (.ok T.length (i+1) d (T++[vD 1 v [] [] (t.line,t.col)]))
      |none=>some (.pan 4 i d T)
    else
     if isW l i [40] then
      if d=12 then some (.pan 12 i d T) else
      match PX l f (.lev 0) (i+1) (d+1) T with
      |some (.ok a i' d' T')=>if isW l i' [41] then some (.ok a (i'+1) (d' - 1) T') else some (.pan 4 i' d' T')
      |r=>r
     else some (.pan 4 i d T)
 |f+1,.row n a,i,d,T =>
  if wL l i (opsX n)=0 then some (.ok a i d T) else
  match PX l f (.lev (n+1)) (i+1) d T with
  |some (.ok b i' d' T') =>
   if zHY n then PX l f (.row n T'.length) i' d' (T'++[vD (wL l i (opsX n)) VZ [] [(a:Int),(b:Int)] (plW l i)])
   else some (.ok T'.length i' d' (T'++[vD (wL l i (opsX n)) VZ [] [(a:Int),(b:Int)] (plW l i)]))
  |r=>r
 |f+1,.call op least most kids p,i,d,T =>
  match PX l f (.lev 0) i d T with
  |some (.ok a i' d' T') =>
   if (isW l i' [44]&&(kids++[(a:Int)]).length==most)||(isW l i' [41]&&Nat.blt (kids++[(a:Int)]).length least) then some (.pan 14 i' d' T')
   else if isW l i' [44] then PX l f (.call op least most (kids++[(a:Int)]) p) (i'+1) d' T'
   else if isW l i' [41] then some (.ok T'.length (i'+1) (d' - 1) (T'++[vD op VZ [] (kids++[(a:Int)]) p]))
   else some (.pan 4 i' d' T')
  |r=>r
def Cmd.dt(d:Nat):Cmd→Nat
 |.call _ _ _ _ _=>d - 1
 |_=>d
def Cmd.pre(T:List Node):Cmd→Prop
 |.row _ a=>a<T.length
 |_=>True
def KX(l:List Tok)(c:Cmd)(i d:Nat)(T:List Node):RX→Prop
 |.ok a i' d' T'=>i≤i'∧i'≤l.length∧d'=c.dt d∧T'.length≤T.length+(i' - i)∧a<T'.length
 |.pan e i' d' T'=>i≤i'∧i'≤l.length∧d'≤12∧T'.length≤T.length+(i' - i)∧0<e∧e<256
theorem zXK{l:List Tok}{i d:Nat}{T:List Node}(n m:Nat)(r:RX):KX l (.lev n) i d T r↔KX l (.lev m) i d T r:=by cases r<;>exact Iff.rfl
theorem yC{l:List Tok}{i:Nat}{w:List Nat}(h:isW l i w=true):i<l.length:=by
 unfold isW at h;rcases Nat.lt_or_ge i l.length with h'|h'
 ·exact h'
 rw[List.getElem?_eq_none h'] at h;cases h
theorem zBZ{l:List Tok}{i:Nat}:∀ {os:List (List Nat×Int)},wL l i os≠0→i<l.length
 |[],h=>by simp [wL] at h
 |o::os,h=>by
  unfold wL at h;split at h
  ·rename_i h';exact yC h'
  exact zBZ h
theorem getElem?_lt{α:Type}{l:List α}{i:Nat}{a:α}(h:l[i]?=some a):i<l.length:=by
 rcases Nat.lt_or_ge i l.length with h'|h'
 ·exact h'
 rw[List.getElem?_eq_none h'] at h;cases h
theorem xQ{l:List Tok}:∀(f:Nat) (c:Cmd) (i d:Nat) (T:List Node) (r:RX),PX l f c i d T=some r→i≤l.length→d≤12→c.pre T→KX l c i d T r
 |0,c,i,d,T,r,h,_,_,_=>by simp [PX] at h
 |f+1,.lev n,i,d,T,r,h,hi,hd,_=>by
  have ih:=xQ (l:=l) f;rw[PX] at h;split at h
  ·split at h
   ·rename_i hw;have hlt:=yC hw;split at h
    ·cases h;exact⟨Nat.le_refl _,hi,hd,by omega,by decide,by decide⟩
    rename_i hd12;split at h
    ·rename_i a i' d' T' hh;cases h;obtain⟨h1,h2,h3,h4,h5⟩:=ih _ _ _ _ _ hh (by omega) (by omega) trivial;simp only[Cmd.dt] at h3;refine⟨by omega,h2,by simp only[Cmd.dt];omega,?_,?_⟩<;>simp only[List.length_append,List.length_cons,List.length_nil]<;>omega
    rename_i hne;cases r with
    |ok a i' d' T'=>exact absurd h (hne a i' d' T')
    |pan e i' d' T' =>
     obtain⟨h1,h2,h3,h4,h5⟩:=ih _ _ _ _ _ h (by omega) (by omega) trivial;exact⟨by omega,h2,h3,by omega,h5⟩
   exact(zXK (l:=l) (i:=i) (d:=d) (T:=T) n (n+1) r).2 (ih _ _ _ _ _ h hi hd trivial)
  split at h
  ·split at h
   ·rename_i a i' d' T' hh;obtain⟨h1,h2,h3,h4,h5⟩:=ih _ _ _ _ _ hh hi hd trivial;simp only[Cmd.dt] at h3;subst h3;have:=ih _ _ _ _ _ h h2 hd h5;cases r with
    |ok a' i'' d'' T''=>obtain⟨a1,a2,a3,a4,a5⟩:=this;exact⟨by omega,a2,a3,by omega,a5⟩
    |pan e i'' d'' T''=>obtain⟨a1,a2,a3,a4,a5⟩:=this;exact⟨by omega,a2,a3,by omega,a5⟩
   exact(by
    have:=ih _ _ _ _ _ h hi hd trivial;cases r with
    |ok a' i'' d'' T''=>exact this
    |pan e i'' d'' T''=>exact this)
  split at h
  ·cases h;exact⟨Nat.le_refl _,hi,hd,by omega,by decide,by decide⟩
  rename_i t ht;have hlt:=getElem?_lt ht;split at h
  ·cases h;refine⟨by omega,by omega,rfl,?_,?_⟩<;>simp only[List.length_append,List.length_cons,List.length_nil]<;>omega
  split at h
  ·cases h;refine⟨by omega,by omega,rfl,?_,?_⟩<;>simp only[List.length_append,List.length_cons,List.length_nil]<;>omega
  split at h
  ·cases h;refine⟨by omega,by omega,rfl,?_,?_⟩<;>simp only[List.length_append,List.length_cons,List.length_nil]<;>omega
  split at h
  ·split at h
   ·split at h
    ·rename_i hw;have hlt2:=yC hw;split at h
     ·cases h;exact⟨by omega,by omega,hd,by omega,by decide,by decide⟩
     rename_i hd12;have:=ih _ _ _ _ _ h (by omega) (by omega) trivial;cases r with
     |ok a' i'' d'' T''=>obtain⟨a1,a2,a3,a4,a5⟩:=this;simp only[Cmd.dt] at a3 ⊢;exact⟨by omega,a2,by simp only[Cmd.dt];omega,by omega,a5⟩
     |pan e i'' d'' T''=>obtain⟨a1,a2,a3,a4,a5⟩:=this;exact⟨by omega,a2,a3,by omega,a5⟩
    cases h;exact⟨by omega,by omega,hd,by omega,by decide,by decide⟩
   split at h
   ·cases h;refine⟨by omega,by omega,rfl,?_,?_⟩<;>simp only[List.length_append,List.length_cons,List.length_nil]<;>omega
   cases h;exact⟨Nat.le_refl _,hi,hd,by omega,by decide,by decide⟩
  split at h
  ·split at h
   ·cases h;exact⟨Nat.le_refl _,hi,hd,by omega,by decide,by decide⟩
   rename_i hd12;split at h
   ·rename_i a i' d' T' hh;obtain⟨h1,h2,h3,h4,h5⟩:=ih _ _ _ _ _ hh (by omega) (by omega) trivial;simp only[Cmd.dt] at h3;split at h
    ·rename_i hw2;have hlt2:=yC hw2;cases h;exact⟨by omega,by omega,by simp only[Cmd.dt];omega,by omega,h5⟩
    cases h;exact⟨by omega,h2,by omega,by omega,by decide,by decide⟩
   rename_i hne;cases r with
   |ok a i' d' T'=>exact absurd h (hne a i' d' T')
   |pan e i' d' T' =>
    obtain⟨h1,h2,h3,h4,h5⟩:=ih _ _ _ _ _ h (by omega) (by omega) trivial;exact⟨by omega,h2,h3,by omega,h5⟩
  cases h;exact⟨Nat.le_refl _,hi,hd,by omega,by decide,by decide⟩
 |f+1,.row n a,i,d,T,r,h,hi,hd,ha=>by
  have ih:=xQ (l:=l) f;rw[PX] at h;split at h
  ·cases h;exact⟨Nat.le_refl _,hi,rfl,by omega,ha⟩
  rename_i ho;have hlt:=zBZ ho;split at h
  ·rename_i b i' d' T' hh;obtain⟨h1,h2,h3,h4,h5⟩:=ih _ _ _ _ _ hh (by omega) hd trivial;simp only[Cmd.dt] at h3;subst h3;split at h
   ·have:=ih _ _ _ _ _ h h2 hd (by simp [Cmd.pre]);cases r with
    |ok a' i'' d'' T''=>obtain⟨a1,a2,a3,a4,a5⟩:=this;simp only[List.length_append,List.length_cons,List.length_nil] at a4;exact⟨by omega,a2,a3,by omega,a5⟩
    |pan e i'' d'' T''=>obtain⟨a1,a2,a3,a4,a5⟩:=this;simp only[List.length_append,List.length_cons,List.length_nil] at a4;exact⟨by omega,a2,a3,by omega,a5⟩
   cases h;refine⟨by omega,h2,rfl,?_,?_⟩<;>simp only[List.length_append,List.length_cons,List.length_nil]<;>omega
  rename_i hne;cases r with
  |ok a i' d' T'=>exact absurd h (hne a i' d' T')
  |pan e i' d' T' =>
   obtain⟨h1,h2,h3,h4,h5⟩:=ih _ _ _ _ _ h (by omega) (by omega) trivial;exact⟨by omega,h2,h3,by omega,h5⟩
 |f+1,.call op least most kids p,i,d,T,r,h,hi,hd,_=>by
  have ih:=xQ (l:=l) f;rw[PX] at h;split at h
  ·rename_i a i' d' T' hh;obtain⟨h1,h2,h3,h4,h5⟩:=ih _ _ _ _ _ hh hi hd trivial;simp only[Cmd.dt] at h3;subst h3;split at h
   ·cases h;exact⟨h1,h2,hd,h4,by decide,by decide⟩
   split at h
   ·rename_i hw;have hlt:=yC hw;have:=ih _ _ _ _ _ h (by omega) hd trivial;cases r with
    |ok a' i'' d'' T''=>obtain⟨a1,a2,a3,a4,a5⟩:=this;exact⟨by omega,a2,a3,by omega,a5⟩
    |pan e i'' d'' T''=>obtain⟨a1,a2,a3,a4,a5⟩:=this;exact⟨by omega,a2,a3,by omega,a5⟩
   split at h
   ·rename_i hw;have hlt:=yC hw;cases h;refine⟨by omega,by omega,rfl,?_,?_⟩<;>simp only[List.length_append,List.length_cons,List.length_nil]<;>omega
   cases h;exact⟨h1,h2,hd,h4,by decide,by decide⟩
  rename_i hne;cases r with
  |ok a i' d' T'=>exact absurd h (hne a i' d' T')
  |pan e i' d' T' =>
   obtain⟨h1,h2,h3,h4,h5⟩:=ih _ _ _ _ _ h hi (by omega) trivial;exact⟨by omega,h2,h3,by omega,h5⟩
def Cmd.need(l:List Tok)(i:Nat):Cmd→Nat
 |.lev n=>16 * (l.length - i)+(8 - n)+1
 |.row _ _=>16 * (l.length - i)+1
 |.call _ _ _ _ _=>16 * (l.length - i)+10
theorem zF6{l:List Tok}:∀(f:Nat) (c:Cmd) (i d:Nat) (T:List Node),c.need l i≤f→i≤l.length→d≤12→c.pre T→∃r,PX l f c i d T=some r
 |0,c,i,d,T,h,_,_,_=>by cases c<;>simp [Cmd.need] at h
 |f+1,.lev n,i,d,T,h,hi,hd,_=>by
  have ih:=zF6 (l:=l) f;have kp:=xQ (l:=l) f;simp only[Cmd.need] at h;rw[PX];split
  ·rename_i hn;split
   ·rename_i hw;have hlt:=yC hw;split
    ·exact⟨_,rfl⟩
    obtain⟨r,hr⟩:=ih (.lev n) (i+1) (d+1) T (by simp only[Cmd.need];omega) (by omega) (by omega) trivial;rw[hr];cases r<;>exact⟨_,rfl⟩
   exact ih (.lev (n+1)) i d T (by simp only[Cmd.need];omega) hi hd trivial
  split
  ·rename_i hn;obtain⟨r,hr⟩:=ih (.lev (n+1)) i d T (by simp only[Cmd.need];omega) hi hd trivial;have hk:=kp _ _ _ _ _ hr hi hd trivial;rw[hr];cases r with
   |pan e i' d' T'=>exact⟨_,rfl⟩
   |ok a i' d' T' =>
    obtain⟨h1,h2,h3,h4,h5⟩:=hk;simp only[Cmd.dt] at h3;exact ih (.row n a) i' d' T' (by simp only[Cmd.need];omega) h2 (by omega) h5
  split
  ·exact⟨_,rfl⟩
  rename_i t ht;have hlt:=getElem?_lt ht;split
  ·exact⟨_,rfl⟩
  split
  ·exact⟨_,rfl⟩
  split
  ·exact⟨_,rfl⟩
  split
  ·split
   ·split
    ·rename_i hw;have hlt2:=yC hw;split
     ·exact⟨_,rfl⟩
     exact ih _ _ _ _ (by simp only[Cmd.need];omega) (by omega) (by omega) trivial
    exact⟨_,rfl⟩
   split<;>exact⟨_,rfl⟩
  split
  ·split
   ·exact⟨_,rfl⟩
   obtain⟨r,hr⟩:=ih (.lev 0) (i+1) (d+1) T (by simp only[Cmd.need];omega) (by omega) (by omega) trivial;rw[hr];cases r with
   |pan e i' d' T'=>exact⟨_,rfl⟩
   |ok a i' d' T'=>simp only;split<;>exact⟨_,rfl⟩
  exact⟨_,rfl⟩
 |f+1,.row n a,i,d,T,h,hi,hd,ha=>by
  have ih:=zF6 (l:=l) f;have kp:=xQ (l:=l) f;simp only[Cmd.need] at h;rw[PX];split
  ·exact⟨_,rfl⟩
  rename_i ho;have hlt:=zBZ ho;obtain⟨r,hr⟩:=ih (.lev (n+1)) (i+1) d T (by simp only[Cmd.need];omega) (by omega) hd trivial;have hk:=kp _ _ _ _ _ hr (by omega) hd trivial;rw[hr];cases r with
  |pan e i' d' T'=>exact⟨_,rfl⟩
  |ok b i' d' T' =>
   obtain⟨h1,h2,h3,h4,h5⟩:=hk;simp only[Cmd.dt] at h3;simp only;split
   ·exact ih _ _ _ _ (by simp only[Cmd.need];omega) h2 (by omega) (by simp [Cmd.pre])
   exact⟨_,rfl⟩
 |f+1,.call op least most kids p,i,d,T,h,hi,hd,_=>by
  have ih:=zF6 (l:=l) f;have kp:=xQ (l:=l) f;simp only[Cmd.need] at h;rw[PX];obtain⟨r,hr⟩:=ih (.lev 0) i d T (by simp only[Cmd.need];omega) hi hd trivial;have hk:=kp _ _ _ _ _ hr hi hd trivial;rw[hr];cases r with
  |pan e i' d' T'=>exact⟨_,rfl⟩
  |ok a i' d' T' =>
   obtain⟨h1,h2,h3,h4,h5⟩:=hk;simp only[Cmd.dt] at h3;dsimp only;split
   ·exact⟨_,rfl⟩
   split
   ·rename_i hw;have hlt:=yC hw;exact ih _ _ _ _ (by simp only[Cmd.need];omega) (by omega) (by omega) trivial
   split<;>exact⟨_,rfl⟩
structure SNode where
 op:Int
 v:Val
 name:List Nat
 kids:List Int
 deriving DecidableEq
def Node.s(x:Node):SNode:=⟨x.op,x.v,x.name,x.kids.l⟩
theorem zCW(op:Int)(v:Val)(name:List Nat)(kids:List Int)(p:Int×Int):(vD op v name kids p).s=⟨op,v,name,kids⟩:=by
 unfold vD Node.s;split<;>simp_all
def SmW(l l':List Tok)(n0 δ:Nat):Prop:=∀j t,n0≤j→l[j]?=some t→∃t',l'[j+δ]?=some t'∧t'.b=t.b
def NoOp(l:List Tok)(i:Nat):Prop:=∀n,wL l i (opsX n)=0
theorem vJ{l l':List Tok}{n0 δ i:Nat}(h:SmW l l' n0 δ)(hn:n0≤i)(hi:i<l.length)(w:List Nat):isW l' (i+δ) w=isW l i w:=by
 obtain⟨t',h1,h2⟩:=h i l[i] hn (List.getElem?_eq_getElem hi);simp only[Tok.b,Prod.mk.injEq] at h2;unfold isW;rw[h1,List.getElem?_eq_getElem hi];simp only[h2.1,h2.2.1]
theorem zIQ{l l':List Tok}{n0 δ i:Nat}(h:SmW l l' n0 δ)(hn:n0≤i)(hi:i<l.length):∀os,wL l' (i+δ) os=wL l i os
 |[]=>rfl
 |o::os=>by unfold wL;rw[vJ h hn hi,zIQ h hn hi os]
theorem zFJ{l:List Tok}:∀(f n i d:Nat) (T:List Node) (a i' d':Nat) (T':List Node),PX l f (.lev n) i d T=some (.ok a i' d' T')→i<l.length
 |0,n,i,d,T,a,i',d',T',h=>by simp [PX] at h
 |f+1,n,i,d,T,a,i',d',T',h=>by
  rw[PX] at h;split at h
  ·split at h
   ·rename_i hw;exact yC hw
   exact zFJ f _ _ _ _ _ _ _ _ h
  split at h
  ·split at h
   ·rename_i hh;exact zFJ f _ _ _ _ _ _ _ _ hh
   exact zFJ f _ _ _ _ _ _ _ _ h
  split at h
  ·cases h
  rename_i t ht;exact getElem?_lt ht
inductive CSim:Cmd→Cmd→Prop
 |lev (n:Nat):CSim (.lev n) (.lev n)
 |row (n a:Nat):CSim (.row n a) (.row n a)
 |call (op:Int) (least most:Nat) (kids:List Int) (p q:Int×Int):CSim (.call op least most kids p) (.call op least most kids q)
theorem zBt{α β:Type}{f:α→β}{x y:List α}(h:x.map f=y.map f):x.length=y.length:=by
 have:=congrArg List.length h;simpa using this
theorem zG7{l l':List Tok}{n0 δ:Nat}(hs:SmW l l' n0 δ)(hno:NoOp l' (l.length+δ)):∀(f:Nat) (c c':Cmd) (i d:Nat) (T:List Node) (a i1 d1:Nat) (T1:List Node),
  PX l f c i d T=some (.ok a i1 d1 T1)→CSim c c'→n0≤i→i≤l.length→d≤12→c.pre T→∀(d':Nat) (T':List Node),d'≤d→T'.map Node.s=T.map Node.s →
  ∃d1' T1',PX l' f c' (i+δ) d' T'=some (.ok a (i1+δ) d1' T1')∧T1'.map Node.s=T1.map Node.s
 |0,c,c',i,d,T,a,i1,d1,T1,h,_,_,_,_,_,_,_,_,_=>by simp [PX] at h
 |f+1,.lev n,_,i,d,T,a,i1,d1,T1,h,.lev _,hn,hi,hd,_,d',T',hdd,hT=>by
  have ih:=zG7 hs hno f;have kp:=xQ (l:=l) f;have hlt:=zFJ _ _ _ _ _ _ _ _ _ h;have w:=fun w=>vJ hs hn hlt w
  have hlen:=zBt hT;rw[PX] at h ⊢;split at h
  ·rename_i hn26;rw[if_pos hn26,w];split at h
   ·rename_i hw;rw[if_pos hw];split at h
    ·cases h
    rename_i hd12;rw[if_neg (by omega:¬ d'=12)];split at h
    ·rename_i a0 i0 d0 T0 hh;cases h;obtain⟨d2,T2,h1,h2⟩:=ih _ _ _ _ _ _ _ _ _ hh (.lev n) (by omega) (by omega) (by omega) trivial (d'+1) T' (by omega) hT;rw[show i+δ+1=i+1+δ by omega,h1];refine⟨_,_,by(try dsimp only);rw[zBt h2],?_⟩;simp only[List.map_append,List.map_cons,List.map_nil,zCW,h2]
    rename_i hne;exact absurd h (hne _ _ _ _)
   rename_i hw;rw[if_neg hw];exact ih _ _ _ _ _ _ _ _ _ h (.lev _) hn hi hd trivial d' T' hdd hT
  rename_i hn26;rw[if_neg hn26];split at h
  ·rename_i hn7;rw[if_pos hn7];split at h
   ·rename_i a0 i0 d0 T0 hh;have hk:=kp _ _ _ _ _ hh hi hd trivial;obtain⟨k1,k2,k3,k4,k5⟩:=hk;simp only[Cmd.dt] at k3;obtain⟨d2,T2,h1,h2⟩:=ih _ _ _ _ _ _ _ _ _ hh (.lev _) hn hi hd trivial d' T' hdd hT;rw[h1];dsimp only;have hd2:d2=d':=by
     have:=xQ (l:=l') f _ _ _ _ _ h1 (by
      obtain⟨t',ht',_⟩:=hs i l[i] hn (List.getElem?_eq_getElem hlt);have:=getElem?_lt ht';omega) (by omega) trivial
     exact this.2.2.1
    exact ih _ _ _ _ _ _ _ _ _ h (.row n a0) (by omega) k2 (by omega) k5 d2 T2 (by omega) h2
   rename_i hne;exact absurd h (hne _ _ _ _)
  rename_i hn7;rw[if_neg hn7];obtain⟨t',ht',hb⟩:=hs i l[i] hn (List.getElem?_eq_getElem hlt);simp only[Tok.b,Prod.mk.injEq] at hb;obtain⟨hk,hsx,hv⟩:=hb;rw[List.getElem?_eq_getElem hlt] at h;rw[ht'];dsimp only at h ⊢;rw[hk];split at h
  ·rename_i h0;rw[if_pos h0];cases h;refine⟨_,_,by rw[hlen,show i+δ+1=i+1+δ by omega],?_⟩;simp only[List.map_append,List.map_cons,List.map_nil,zCW,hT,hv]
  rename_i h0;rw[if_neg h0];split at h
  ·rename_i h0;rw[if_pos h0];cases h;refine⟨_,_,by rw[hlen,show i+δ+1=i+1+δ by omega],?_⟩;simp only[List.map_append,List.map_cons,List.map_nil,zCW,hT,hsx]
  rename_i h0;rw[if_neg h0];split at h
  ·rename_i h0;rw[if_pos h0];cases h;refine⟨_,_,by rw[hlen,show i+δ+1=i+1+δ by omega],?_⟩;simp only[List.map_append,List.map_cons,List.map_nil,zCW,hT]
  rename_i h0;rw[if_neg h0];split at h
  ·rename_i h0;rw[if_pos h0,hsx];split at h
   ·rename_i op least most hf
    try rw[hf]
    try dsimp only at h ⊢
    split at h
    ·rename_i hw;have hlt2:=yC hw;rw[show i+δ+1=i+1+δ by omega,vJ hs (by omega) hlt2,if_pos hw];split at h
     ·cases h
     rename_i hd12;rw[if_neg (by omega:¬ d'=12),show i+δ+2=i+2+δ by omega];exact ih _ _ _ _ _ _ _ _ _ h (.call _ _ _ _ _ _) (by omega) (by omega) (by omega) trivial (d'+1) T' (by omega) hT
    cases h
   rename_i hf
   try rw[hf]
   try dsimp only at h ⊢
   split at h
   ·rename_i v hl
    try rw[hl]
    cases h;refine⟨_,_,by(try dsimp only);rw[hlen,show i+δ+1=i+1+δ by omega],?_⟩;simp only[List.map_append,List.map_cons,List.map_nil,zCW,hT]
   cases h
  rename_i h0;rw[if_neg h0,w];split at h
  ·rename_i hw;rw[if_pos hw];split at h
   ·cases h
   rename_i hd12;rw[if_neg (by omega:¬ d'=12)];split at h
   ·rename_i a0 i0 d0 T0 hh;have hk:=kp _ _ _ _ _ hh (by omega) (by omega) trivial;obtain⟨k1,k2,k3,k4,k5⟩:=hk;obtain⟨d2,T2,h1,h2⟩:=ih _ _ _ _ _ _ _ _ _ hh (.lev _) (by omega) (by omega) (by omega) trivial (d'+1) T' (by omega) hT;rw[show i+δ+1=i+1+δ by omega,h1];dsimp only;split at h
    ·rename_i hw2;have hlt2:=yC hw2;rw[vJ hs (by omega) hlt2,if_pos hw2];cases h;exact⟨_,_,by rw[show i0+δ+1=i0+1+δ by omega],h2⟩
    cases h
   rename_i hne;exact absurd h (hne _ _ _ _)
  cases h
 |f+1,.row n a0,_,i,d,T,a,i1,d1,T1,h,.row _ _,hn,hi,hd,hpre,d',T',hdd,hT=>by
  have ih:=zG7 hs hno f;have kp:=xQ (l:=l) f;have hlen:=zBt hT;rw[PX] at h ⊢;split at h
  ·rename_i ho;have ho':wL l' (i+δ) (opsX n)=0:=by
    rcases Nat.lt_or_ge i l.length with hlt|hge
    ·rw[zIQ hs hn hlt];exact ho
    obtain rfl:i=l.length:=by omega
    exact hno n
   rw[if_pos ho'];cases h;exact⟨_,_,rfl,hT⟩
  rename_i ho;have hlt:=zBZ ho;rw[zIQ hs hn hlt,if_neg ho];split at h
  ·rename_i b i0 d0 T0 hh;have hk:=kp _ _ _ _ _ hh (by omega) hd trivial;obtain⟨k1,k2,k3,k4,k5⟩:=hk;simp only[Cmd.dt] at k3;obtain⟨d2,T2,h1,h2⟩:=ih _ _ _ _ _ _ _ _ _ hh (.lev _) (by omega) (by omega) hd trivial d' T' hdd hT;have hlt0:=zFJ _ _ _ _ _ _ _ _ _ hh;have hd2:d2=d':=by
    have:=xQ (l:=l') f _ _ _ _ _ h1 (by
     obtain⟨t',ht',_⟩:=hs (i+1) l[i+1] (by omega) (List.getElem?_eq_getElem hlt0);have:=getElem?_lt ht';omega) (by omega) trivial
    exact this.2.2.1
   rw[show i+δ+1=i+1+δ by omega,h1];dsimp only;have hmap:∀(o:Int) (p q:Int×Int),(T2++[vD o VZ [] [(a0:Int),(b:Int)] p]).map Node.s=(T0++[vD o VZ [] [(a0:Int),(b:Int)] q]).map Node.s:=fun o p q=>by
    simp only[List.map_append,List.map_cons,List.map_nil,zCW,h2]
   split at h
   ·rename_i hm;rw[if_pos hm,zBt h2];exact ih _ _ _ _ _ _ _ _ _ h (.row _ _) (by omega) k2 (by omega) (by simp [Cmd.pre]) d2 _ (by omega) (hmap _ _ _)
   rename_i hm;rw[if_neg hm];cases h;exact⟨_,_,by(try dsimp only);rw[zBt h2],hmap _ _ _⟩
  rename_i hne;exact absurd h (hne _ _ _ _)
 |f+1,.call op least most kids p,_,i,d,T,a,i1,d1,T1,h,.call _ _ _ _ _ q,hn,hi,hd,hpre,d',T',hdd,hT=>by
  have ih:=zG7 hs hno f;have kp:=xQ (l:=l) f;have hlen:=zBt hT;rw[PX] at h ⊢;split at h
  ·rename_i b i0 d0 T0 hh;have hk:=kp _ _ _ _ _ hh (by omega) hd trivial;obtain⟨k1,k2,k3,k4,k5⟩:=hk;simp only[Cmd.dt] at k3;obtain⟨d2,T2,h1,h2⟩:=ih _ _ _ _ _ _ _ _ _ hh (.lev _) (by omega) (by omega) hd trivial d' T' hdd hT;have hlt0:=zFJ _ _ _ _ _ _ _ _ _ hh;have hd2:d2=d':=by
    have:=xQ (l:=l') f _ _ _ _ _ h1 (by
     obtain⟨t',ht',_⟩:=hs i l[i] (by omega) (List.getElem?_eq_getElem hlt0);have:=getElem?_lt ht';omega) (by omega) trivial
    exact this.2.2.1
   rw[h1];dsimp only;have hi0:i0<l.length:=by
    rcases Nat.lt_or_ge i0 l.length with h'|h'
    ·exact h'
    have hno:∀w,isW l i0 w=false:=fun w=>by unfold isW;rw[List.getElem?_eq_none h']
    simp [hno] at h
   rw[vJ hs (by omega) hi0,vJ hs (by omega) hi0];split at h
   ·cases h
   rename_i hc;rw[if_neg hc];split at h
   ·rename_i hw;rw[if_pos hw,show i0+δ+1=i0+1+δ by omega];exact ih _ _ _ _ _ _ _ _ _ h (.call _ _ _ _ _ _) (by omega) (by omega) (by omega) trivial d2 T2 (by omega) h2
   rename_i hw;rw[if_neg hw];split at h
   ·rename_i hw2;rw[if_pos hw2,show i0+δ+1=i0+1+δ by omega];cases h;refine⟨_,_,by(try dsimp only);rw[zBt h2],?_⟩;simp only[List.map_append,List.map_cons,List.map_nil,zCW,h2]
   cases h
  rename_i hne;exact absurd h (hne _ _ _ _)
theorem zKN{l:List Tok}:∀(f:Nat) (c:Cmd) (i d:Nat) (T:List Node) (r:RX),PX l f c i d T=some r→∀g,f≤g→PX l g c i d T=some r
 |0,c,i,d,T,r,h,_,_=>by simp [PX] at h
 |f+1,c,i,d,T,r,h,g,hg=>by
  obtain⟨g,rfl⟩:∃g',g=g'+1:=⟨g - 1,by omega⟩;have ih:=fun c i d T r h=>zKN (l:=l) f c i d T r h g (by omega)
  cases c with
  |lev n =>
   rw[PX] at h ⊢;split at h
   ·rename_i h0;rw[if_pos h0];split at h
    ·rename_i h1;rw[if_pos h1];split at h
     ·rename_i h2;rw[if_pos h2];exact h
     rename_i h2;rw[if_neg h2];cases hh:PX l f (.lev n) (i+1) (d+1) T with
     |none=>rw[hh] at h;cases h
     |some x=>rw[hh] at h;rw[ih _ _ _ _ _ hh];exact h
    rename_i h1;rw[if_neg h1];exact ih _ _ _ _ _ h
   rename_i h0;rw[if_neg h0];split at h
   ·rename_i h1;rw[if_pos h1];cases hh:PX l f (.lev (n+1)) i d T with
    |none=>rw[hh] at h;cases h
    |some x =>
     rw[hh] at h;rw[ih _ _ _ _ _ hh];cases x with
     |ok a i' d' T'=>exact ih _ _ _ _ _ h
     |pan e i' d' T'=>exact h
   rename_i h1;rw[if_neg h1];cases ht:l[i]? with
   |none=>rw[ht] at h;exact h
   |some t =>
    rw[ht] at h;dsimp only at h ⊢;split at h
    ·rename_i h2;rw[if_pos h2];exact h
    rename_i h2;rw[if_neg h2];split at h
    ·rename_i h2;rw[if_pos h2];exact h
    rename_i h2;rw[if_neg h2];split at h
    ·rename_i h2;rw[if_pos h2];exact h
    rename_i h2;rw[if_neg h2];split at h
    ·rename_i h2;rw[if_pos h2];cases hf:kN t.s zCI with
     |none=>rw[hf] at h;exact h
     |some x =>
      rw[hf] at h;obtain⟨op,least,most⟩:=x;dsimp only at h ⊢;split at h
      ·rename_i h3;rw[if_pos h3];split at h
       ·rename_i h4;rw[if_pos h4];exact h
       rename_i h4;rw[if_neg h4];exact ih _ _ _ _ _ h
      rename_i h3;rw[if_neg h3];exact h
    rename_i h2;rw[if_neg h2];split at h
    ·rename_i h3;rw[if_pos h3];split at h
     ·rename_i h4;rw[if_pos h4];exact h
     rename_i h4;rw[if_neg h4];cases hh:PX l f (.lev 0) (i+1) (d+1) T with
     |none=>rw[hh] at h;cases h
     |some x=>rw[hh] at h;rw[ih _ _ _ _ _ hh];exact h
    rename_i h3;rw[if_neg h3];exact h
  |row n a =>
   rw[PX] at h ⊢;split at h
   ·rename_i h0;rw[if_pos h0];exact h
   rename_i h0;rw[if_neg h0];cases hh:PX l f (.lev (n+1)) (i+1) d T with
   |none=>rw[hh] at h;cases h
   |some x =>
    rw[hh] at h;rw[ih _ _ _ _ _ hh];cases x with
    |pan e i' d' T'=>exact h
    |ok b i' d' T' =>
     dsimp only at h ⊢;split at h
     ·rename_i h1;rw[if_pos h1];exact ih _ _ _ _ _ h
     rename_i h1;rw[if_neg h1];exact h
  |call op least most kids p =>
   rw[PX] at h ⊢;cases hh:PX l f (.lev 0) i d T with
   |none=>rw[hh] at h;cases h
   |some x =>
    rw[hh] at h;rw[ih _ _ _ _ _ hh];cases x with
    |pan e i' d' T'=>exact h
    |ok b i' d' T' =>
     dsimp only at h ⊢;split at h
     ·rename_i h1;rw[if_pos h1];exact h
     rename_i h1;rw[if_neg h1];split at h
     ·rename_i h2;rw[if_pos h2];exact ih _ _ _ _ _ h
     rename_i h2;rw[if_neg h2];exact h
theorem zOE{l:List Tok}:∀(f:Nat) (c:Cmd) (i d:Nat) (T:List Node) (a i' d':Nat) (T':List Node),PX l f c i d T=some (.ok a i' d' T')→T.length≤T'.length
 |0,c,i,d,T,a,i',d',T',h=>by simp [PX] at h
 |f+1,c,i,d,T,a,i',d',T',h=>by
  have ih:=zOE (l:=l) f;cases c with
  |lev n =>
   rw[PX] at h;split at h
   ·split at h
    ·split at h
     ·cases h
     split at h
     ·rename_i hh;cases h;have:=ih _ _ _ _ _ _ _ _ hh;simp only[List.length_append,List.length_cons,List.length_nil];omega
     rename_i hne;exact absurd h (hne _ _ _ _)
    exact ih _ _ _ _ _ _ _ _ h
   split at h
   ·split at h
    ·rename_i hh;have:=ih _ _ _ _ _ _ _ _ hh;have:=ih _ _ _ _ _ _ _ _ h;omega
    rename_i hne;exact absurd h (hne _ _ _ _)
   split at h
   ·cases h
   split at h
   ·cases h;simp
   split at h
   ·cases h;simp
   split at h
   ·cases h;simp
   split at h
   ·split at h
    ·split at h
     ·split at h
      ·cases h
      exact ih _ _ _ _ _ _ _ _ h
     cases h
    split at h
    ·cases h;simp
    cases h
   split at h
   ·split at h
    ·cases h
    split at h
    ·rename_i hh;have:=ih _ _ _ _ _ _ _ _ hh;split at h
     ·cases h;exact this
     cases h
    rename_i hne;exact absurd h (hne _ _ _ _)
   cases h
  |row n a =>
   rw[PX] at h;split at h
   ·cases h;exact Nat.le_refl _
   split at h
   ·rename_i hh;have h1:=ih _ _ _ _ _ _ _ _ hh;split at h
    ·have:=ih _ _ _ _ _ _ _ _ h;simp only[List.length_append,List.length_cons,List.length_nil] at this;omega
    cases h;simp only[List.length_append,List.length_cons,List.length_nil];omega
   rename_i hne;exact absurd h (hne _ _ _ _)
  |call op least most kids p =>
   rw[PX] at h;split at h
   ·rename_i hh;have h1:=ih _ _ _ _ _ _ _ _ hh;split at h
    ·cases h
    split at h
    ·have:=ih _ _ _ _ _ _ _ _ h;omega
    split at h
    ·cases h;simp only[List.length_append,List.length_cons,List.length_nil];omega
    cases h
   rename_i hne;exact absurd h (hne _ _ _ _)
def PXF(l:List Tok)(i:Nat):Option RX:=PX l (16 * (l.length - i)+9) (.lev 0) i 0 []
theorem zDb{l:List Tok}{i:Nat}(hi:i≤l.length):∃r,PXF l i=some r :=
 zF6 _ _ _ _ _ (by simp [Cmd.need]) hi (by omega) trivial
def zG(l:List Tok)(i:Nat):List Node×Nat×Int :=
 match PXF l i with
 |some (.ok _ i' _ T)=>if 60<T.length then ([],i,7) else (T,i',0)
 |some (.pan e i' _ _)=>([],i',e)
 |none=>([],0,4)
theorem zFe{l:List Tok}{i:Nat}(hi:i≤l.length):(zG l i).2.2=0↔∃f a i' d' T,PX l f (.lev 0) i 0 []=some (.ok a i' d' T)∧T.length≤60∧zG l i=(T,i',0):=by
 obtain⟨r,hr⟩:=zDb hi
 constructor
 ·intro h;unfold zG at h ⊢;rw[hr] at h ⊢;cases r with
  |ok a i' d' T =>
   dsimp only at h ⊢;split at h
   ·cases h
   rename_i h60;rw[if_neg h60];exact⟨_,a,i',d',T,hr,by omega,rfl⟩
  |pan e i' d' T =>
   have:=(xQ _ _ _ _ _ _ hr hi (by omega) trivial).2.2.2.2.1;dsimp only at h;omega
 rintro⟨f,a,i',d',T,_,_,h⟩;rw[h]
theorem vE{l:List Tok}{i:Nat}(hi:i≤l.length):(zG l i).2.1≤l.length:=by
 obtain⟨r,hr⟩:=zDb hi;unfold zG;rw[hr];have hk:=xQ _ _ _ _ _ _ hr hi (by omega) trivial;cases r with
 |ok a i' d' T=>dsimp only;split;exact hi;exact hk.2.1
 |pan e i' d' T=>exact hk.2.1
theorem zLe{l:List Tok}{f i a i' d':Nat}{T:List Node}(hi:i≤l.length)(h:PX l f (.lev 0) i 0 []=some (.ok a i' d' T))(h60:T.length≤60):zG l i=(T,i',0):=by
 obtain⟨r,hr⟩:=zDb hi;have h1:=zKN _ _ _ _ _ _ h (max f (16 * (l.length - i)+9)) (by omega);have h2:=zKN _ _ _ _ _ _ hr (max f (16 * (l.length - i)+9)) (by omega);rw[h1] at h2;cases h2;unfold zG;rw[hr];dsimp only;rw[if_neg (by omega)]
theorem zCt {l l':List Tok} {n0 δ i:Nat} (hs:SmW l l' n0 δ) (hno:NoOp l' (l.length+δ)) (hn:n0≤i) (hi:i≤l.length) (hi':i+δ≤l'.length) (h:(zG l i).2.2=0) :
  (zG l' (i+δ)).2.2=0∧(zG l' (i+δ)).2.1=(zG l i).2.1+δ∧(zG l' (i+δ)).1.map Node.s=(zG l i).1.map Node.s:=by
 obtain⟨f,a,i1,d1,T,h1,h2,h3⟩:=(zFe hi).1 h;obtain⟨d2,T2,h4,h5⟩:=zG7 hs hno f _ _ _ _ _ _ _ _ _ h1 (.lev 0) hn hi (by omega) trivial 0 [] (Nat.le_refl _) rfl;have:=zLe hi' h4 (by rw[zBt h5];exact h2);rw[this,h3];exact⟨rfl,rfl,h5⟩
theorem zEN{l:List Tok}{i:Nat}(hi:i≤l.length)(h:(zG l i).2.2=0):i≤(zG l i).2.1:=by
 obtain⟨f,a,i1,d1,T,h1,h2,h3⟩:=(zFe hi).1 h;rw[h3];exact(xQ _ _ _ _ _ _ h1 hi (by omega) trivial).1
structure STst where
 op:Int
 a:List SNode
 b:List SNode
 low:Bool
 high:Bool
 kids:List Int
 deriving DecidableEq
def Test.s(x:Test):STst:=⟨x.op,x.a.l.map Node.s,x.b.l.map Node.s,x.low,x.high,x.kids.l⟩
def slX{α:Type}(l:List α):Sl α:=match l with
 |[]=>⟨true,true,[]⟩
 |a::r=>⟨false,false,a::r⟩
theorem zJn{α:Type}(l:List α):(slX l).l=l:=by cases l<;>rfl
def xU(ks:List Nat):List Int:=ks.map fun k:Nat=>(k:Int)
def yY(op:Int)(a b:List Node)(low high:Bool)(kids:List Nat)(p:Int×Int):Test:=⟨op,slX a,slX b,low,high,slX (xU kids),p.1,p.2⟩
theorem zHP(op:Int)(a b:List Node)(low high:Bool)(kids:List Nat)(p:Int×Int):(yY op a b low high kids p).s=⟨op,a.map Node.s,b.map Node.s,low,high,xU kids⟩:=by
 simp only[yY,Test.s,zJn]
inductive RU where
 |ok (k i n:Nat) (T:List Test)
 |oks (ks:List Nat) (i n:Nat) (T:List Test)
 |pan (e:Int) (i:Nat)
inductive UC where
 |one
 |list (ks:List Nat)
 |tests
def wV:List (List Nat×Int):=[([61],2),([60],3),([60,61],4),([62],5),([62,61],6)]
def wQ(l:List Tok)(i:Nat):List (List Nat×Int)→Option Int
 |[]=>none
 |o::os=>if isW l i o.1 then some o.2 else wQ l i os
def jT(l:List Tok)(i:Nat):Bool :=
 match l[i]? with
 |some t=>t.k==1&&isW l (i+1) [58]
 |none=>false
def vZ(l:List Tok)(i:Nat):Bool:=(isW l i [91]||isW l i [40])&&((zG l (i+1)).2.2==0&&isW l (zG l (i+1)).2.1 [46,46])
def anyX(l:List Tok)(i:Nat):Bool:=isW l i [45]&&(zG l i).2.2 != 0
def notX(l:List Tok)(i:Nat):Bool:=isW l i [110,111,116]&&isW l (i+1) [40]
def cmpX(l:List Tok)(op:Int)(p:Int×Int)(i n:Nat)(T:List Test):RU :=
 if (zG l i).2.2=0 then .ok T.length (zG l i).2.1 n (T++[yY op (zG l i).1 [] false false [] p]) else .pan (zG l i).2.2 (zG l i).2.1
def rngX(l:List Tok)(i n:Nat)(T:List Test):RU :=
 if (zG l ((zG l (i+1)).2.1+1)).2.2=0 then
  if isW l (zG l ((zG l (i+1)).2.1+1)).2.1 [93]||isW l (zG l ((zG l (i+1)).2.1+1)).2.1 [41] then
   .ok T.length ((zG l ((zG l (i+1)).2.1+1)).2.1+1) n (T++[yY 7 (zG l (i+1)).1 (zG l ((zG l (i+1)).2.1+1)).1 (isW l i [40]) (isW l (zG l ((zG l (i+1)).2.1+1)).2.1 [41]) [] (plW l i)])
  else .pan 4 (zG l ((zG l (i+1)).2.1+1)).2.1
 else .pan (zG l ((zG l (i+1)).2.1+1)).2.2 (zG l ((zG l (i+1)).2.1+1)).2.1
def UX(l:List Tok):Nat→UC→Nat→Nat→List Test→Option RU
 |0,_,_,_,_=>none
 |f+1,.one,i,n,T =>
  if anyX l i then some (.ok T.length (i+1) n (T++[yY 1 [] [] false false [] (plW l i)]))
  else if notX l i then
   if n=4 then some (.pan 12 i) else
   match UX l f .tests (i+2) (n+1) T with
   |some (.ok k i' n' T')=>if isW l i' [41] then some (.ok T'.length (i'+1) (n' - 1) (T'++[yY 8 [] [] false false [k] (plW l i)])) else some (.pan 4 i')
   |r=>r
  else if vZ l i then some (rngX l i n T)
  else match wQ l i wV with
   |some op=>some (cmpX l op (plW l i) (i+1) n T)
   |none=>some (cmpX l 2 (plW l i) i n T)
 |f+1,.list ks,i,n,T =>
  if isW l i [44]&&!jT l (i+1) then
   match UX l f .one (i+1) n T with
   |some (.ok k i' n' T')=>UX l f (.list (ks++[k])) i' n' T'
   |r=>r
  else some (.oks ks i n T)
 |f+1,.tests,i,n,T =>
  match UX l f .one i n T with
  |some (.ok k i' n' T') =>
   match UX l f (.list [k]) i' n' T' with
   |some (.oks [k] i2 n2 T2)=>some (.ok k i2 n2 T2)
   |some (.oks ks i2 n2 T2)=>some (.ok T2.length i2 n2 (T2++[yY 9 [] [] false false ks (plW l i)]))
   |r=>r
  |r=>r
def UC.kl:UC→List Nat
 |.list ks=>ks
 |_=>[]
def UC.ks(c:UC):Nat:=c.kl.length
def KU(l:List Tok)(c:UC)(i n:Nat)(T:List Test):RU→Prop
 |.ok k i' n' T'=>(match c with|.list _=>False|_=>True)∧i<i'∧i'≤l.length∧n'=n∧T'.length≤T.length+(i' - i)∧k<T'.length∧T.length≤T'.length
 |.oks ks i' n' T'=>(match c with|.list _=>True|_=>False)∧i≤i'∧i'≤l.length∧n'=n∧T'.length+ks.length≤T.length+c.ks+(i' - i)∧T.length≤T'.length∧∃m,ks=c.kl++m∧∀x ∈ m,x<T'.length
 |.pan e i'=>i'≤l.length∧0<e∧e<256
theorem zMn{l:List Tok}{i:Nat}(hi:i≤l.length):0≤(zG l i).2.2∧(zG l i).2.2<256:=by
 obtain⟨r,hr⟩:=zDb hi;unfold zG;rw[hr];have hk:=xQ _ _ _ _ _ _ hr hi (by omega) trivial;cases r with
 |ok a i' d' T=>dsimp only;split<;>simp
 |pan e i' d' T=>exact⟨by have:=hk.2.2.2.2.1;simp only;omega,hk.2.2.2.2.2⟩
theorem zHk{l:List Tok}{i:Nat}(hi:i≤l.length)(h:(zG l i).2.2=0):i<(zG l i).2.1:=by
 obtain⟨f,a,i1,d1,T,h1,h2,h3⟩:=(zFe hi).1 h;rw[h3];have hk:=xQ _ _ _ _ _ _ h1 hi (by omega) trivial;obtain⟨k1,k2,k3,k4,k5⟩:=hk;simp only[List.length_nil] at k4
 show i<i1
 omega
theorem zKj{l:List Tok}{op:Int}{p:Int×Int}{j i n:Nat}{T:List Test}(hi:i≤l.length)(hj:j≤i):KU l .one j n T (cmpX l op p i n T):=by
 unfold cmpX;split
 ·rename_i h;have h1:=zHk hi h;have h2:=vE hi;refine⟨trivial,by omega,h2,rfl,?_,?_,?_⟩<;>simp only[List.length_append,List.length_cons,List.length_nil]<;>omega
 rename_i h;have h1:=zMn hi;exact⟨vE hi,by omega,h1.2⟩
theorem zBv{l:List Tok}{i:Nat}(h:vZ l i=true):i<l.length∧(zG l (i+1)).2.2=0∧isW l (zG l (i+1)).2.1 [46,46]=true:=by
 simp only[vZ,Bool.and_eq_true,Bool.or_eq_true,beq_iff_eq] at h;obtain⟨h1,h2,h3⟩:=h;exact⟨h1.elim yC yC,h2,h3⟩
theorem zIw{l:List Tok}{i:Nat}{op:Int}:∀ {os:List (List Nat×Int)},wQ l i os=some op→i<l.length
 |[],h=>by simp [wQ] at h
 |o::os,h=>by
  unfold wQ at h;split at h
  ·rename_i h';exact yC h'
  exact zIw h
theorem yU{l:List Tok}:∀(f:Nat) (c:UC) (i n:Nat) (T:List Test) (r:RU),UX l f c i n T=some r→i≤l.length→KU l c i n T r
 |0,c,i,n,T,r,h,_=>by simp [UX] at h
 |f+1,.one,i,n,T,r,h,hi=>by
  have ih:=yU (l:=l) f;rw[UX] at h;split at h
  ·rename_i ha;simp only[anyX,Bool.and_eq_true] at ha;have:=yC ha.1;cases h;refine⟨trivial,by omega,by omega,rfl,?_,?_,?_⟩<;>simp only[List.length_append,List.length_cons,List.length_nil]<;>omega
  split at h
  ·rename_i hn;simp only[notX,Bool.and_eq_true] at hn;have:=yC hn.2;split at h
   ·cases h;exact⟨hi,by decide,by decide⟩
   split at h
   ·rename_i hh;obtain⟨_,k1,k2,k3,k4,k5,k6⟩:=ih _ _ _ _ _ hh (by omega);split at h
    ·rename_i hw;have:=yC hw;cases h;refine⟨trivial,by omega,by omega,by omega,?_,?_,?_⟩<;>simp only[List.length_append,List.length_cons,List.length_nil]<;>omega
    cases h;exact⟨k2,by decide,by decide⟩
   rename_i hne;have:=ih _ _ _ _ _ h (by omega);cases r with
   |ok k i' n' T'=>exact absurd h (hne _ _ _ _)
   |oks ks i' n' T'=>exact absurd this.1 id
   |pan e i'=>exact this
  split at h
  ·rename_i hr;obtain⟨h1,h2,h3⟩:=zBv hr;have h4:=yC h3;have h6:=zHk (l:=l) (i:=i+1) (by omega) h2;have h5:(zG l (i+1)).2.1+1≤l.length:=by omega
   have h7:=vE h5;cases h;unfold rngX;split
   ·rename_i he;have h8:=zHk h5 he;split
    ·rename_i hw;have h9:(zG l ((zG l (i+1)).2.1+1)).2.1<l.length:=by
      simp only[Bool.or_eq_true] at hw;exact hw.elim yC yC
     refine⟨trivial,by omega,by omega,rfl,?_,?_,?_⟩<;>simp only[List.length_append,List.length_cons,List.length_nil]<;>omega
    exact⟨h7,by decide,by decide⟩
   have:=zMn h5;exact⟨h7,by omega,this.2⟩
  split at h
  ·rename_i hs;have:=zIw hs;cases h;exact zKj (by omega) (by omega)
  cases h;exact zKj hi (Nat.le_refl _)
 |f+1,.list ks,i,n,T,r,h,hi=>by
  have ih:=yU (l:=l) f;rw[UX] at h;split at h
  ·rename_i hc;simp only[Bool.and_eq_true] at hc;have:=yC hc.1;split at h
   ·rename_i k i' n' T' hh;obtain⟨_,k1,k2,k3,k4,k5,k6⟩:=ih _ _ _ _ _ hh (by omega);have:=ih _ _ _ _ _ h k2;cases r with
    |ok k i' n' T'=>exact absurd this.1 id
    |oks ks' i' n' T' =>
     obtain⟨_,a1,a2,a3,a4,a5,m,rfl,a6⟩:=this;simp only[UC.ks,UC.kl,List.length_append,List.length_cons,List.length_nil] at a4 a5;refine⟨trivial,by omega,a2,by omega,by simp only[UC.ks,UC.kl,List.length_append,List.length_cons,List.length_nil];omega,by omega,k::m,by simp [UC.kl],fun x hx=>?_⟩;rcases List.mem_cons.1 hx with rfl|hx
     ·omega
     exact a6 x hx
    |pan e i'=>exact this
   rename_i hne;have:=ih _ _ _ _ _ h (by omega);cases r with
   |ok k i' n' T'=>exact absurd h (hne _ _ _ _)
   |oks ks i' n' T'=>exact absurd this.1 id
   |pan e i'=>exact this
  cases h;exact⟨trivial,Nat.le_refl _,hi,rfl,by simp only[UC.ks,UC.kl];omega,Nat.le_refl _,[],by simp [UC.kl],by simp⟩
 |f+1,.tests,i,n,T,r,h,hi=>by
  have ih:=yU (l:=l) f;rw[UX] at h;split at h
  ·rename_i k i' n' T' hh;obtain⟨_,k1,k2,k3,k4,k5,k6⟩:=ih _ _ _ _ _ hh hi;split at h
   ·rename_i k2' i2 n2 T2 hl;obtain⟨_,a1,a2,a3,a4,a5,m,a6,a7⟩:=ih _ _ _ _ _ hl k2;cases h;simp only[UC.ks,UC.kl,List.length_cons,List.length_nil] at a4 a6;simp only[List.cons_append,List.nil_append,List.cons.injEq] at a6;refine⟨trivial,by omega,a2,by omega,by omega,by omega,by omega⟩
   ·rename_i ks i2 n2 T2 hne hl;obtain⟨_,a1,a2,a3,a4,a5,m,a6,a7⟩:=ih _ _ _ _ _ hl k2;cases h;have h2:2≤ks.length:=by
     subst a6
     match m,hne with
     |[],hne=>exact absurd rfl (hne k)
     |_::_,_=>simp [UC.kl]
    simp only[UC.ks,UC.kl,List.length_cons,List.length_nil] at a4;refine⟨trivial,by omega,a2,by omega,?_,?_,?_⟩<;>simp only[List.length_append,List.length_cons,List.length_nil]<;>omega
   rename_i h1 h2;have:=ih _ _ _ _ _ h k2;cases r with
   |ok k i' n' T'=>exact absurd this.1 id
   |oks ks i' n' T'=>exact absurd h (h2 _ _ _ _)
   |pan e i'=>exact this
  rename_i hne;have:=ih _ _ _ _ _ h hi;cases r with
  |ok k i' n' T'=>exact absurd h (hne _ _ _ _)
  |oks ks i' n' T'=>exact absurd this.1 id
  |pan e i'=>exact this
def UC.need(l:List Tok)(i:Nat):UC→Nat
 |.one=>4 * (l.length - i)+2
 |.list _=>4 * (l.length - i)+1
 |.tests=>4 * (l.length - i)+3
theorem zEi{l:List Tok}:∀(f:Nat) (c:UC) (i n:Nat) (T:List Test),c.need l i≤f→i≤l.length→∃r,UX l f c i n T=some r
 |0,c,i,n,T,h,_=>by cases c<;>simp [UC.need] at h
 |f+1,.one,i,n,T,h,hi=>by
  have ih:=zEi (l:=l) f;simp only[UC.need] at h;rw[UX];split
  ·exact⟨_,rfl⟩
  split
  ·rename_i hn;simp only[notX,Bool.and_eq_true] at hn;have:=yC hn.2;split
   ·exact⟨_,rfl⟩
   obtain⟨r,hr⟩:=ih .tests (i+2) (n+1) T (by simp only[UC.need];omega) (by omega);rw[hr];cases r with
   |ok k i' n' T'=>dsimp only;split<;>exact⟨_,rfl⟩
   |oks ks i' n' T'=>exact⟨_,rfl⟩
   |pan e i'=>exact⟨_,rfl⟩
  split
  ·exact⟨_,rfl⟩
  split<;>exact⟨_,rfl⟩
 |f+1,.list ks,i,n,T,h,hi=>by
  have ih:=zEi (l:=l) f;simp only[UC.need] at h;rw[UX];split
  ·rename_i hc;simp only[Bool.and_eq_true] at hc;have:=yC hc.1;obtain⟨r,hr⟩:=ih .one (i+1) n T (by simp only[UC.need];omega) (by omega);have hk:=yU _ _ _ _ _ _ hr (by omega);rw[hr];cases r with
   |ok k i' n' T' =>
    obtain⟨_,k1,k2,_⟩:=hk;exact ih _ _ _ _ (by simp only[UC.need];omega) k2
   |oks ks i' n' T'=>exact⟨_,rfl⟩
   |pan e i'=>exact⟨_,rfl⟩
  exact⟨_,rfl⟩
 |f+1,.tests,i,n,T,h,hi=>by
  have ih:=zEi (l:=l) f;simp only[UC.need] at h;rw[UX];obtain⟨r,hr⟩:=ih .one i n T (by simp only[UC.need];omega) hi;have hk:=yU _ _ _ _ _ _ hr hi;rw[hr];cases r with
  |ok k i' n' T' =>
   obtain⟨_,k1,k2,_⟩:=hk;obtain⟨r2,hr2⟩:=ih (.list [k]) i' n' T' (by simp only[UC.need];omega) k2;dsimp only;rw[hr2];cases r2 with
   |ok k i' n' T'=>exact⟨_,rfl⟩
   |oks ks i' n' T' =>
    match ks with
    |[]=>exact⟨_,rfl⟩
    |[a]=>exact⟨_,rfl⟩
    |a::b::ks=>exact⟨_,rfl⟩
   |pan e i'=>exact⟨_,rfl⟩
  |oks ks i' n' T'=>exact⟨_,rfl⟩
  |pan e i'=>exact⟨_,rfl⟩
theorem jH{l:List Tok}:∀(f:Nat) (c:UC) (i n:Nat) (T:List Test) (r:RU),UX l f c i n T=some r→∀g,f≤g→UX l g c i n T=some r
 |0,c,i,n,T,r,h,_,_=>by simp [UX] at h
 |f+1,c,i,n,T,r,h,g,hg=>by
  obtain⟨g,rfl⟩:∃g',g=g'+1:=⟨g - 1,by omega⟩;have ih:=fun c i n T r h=>jH (l:=l) f c i n T r h g (by omega)
  cases c with
  |one =>
   rw[UX] at h ⊢;split at h
   ·rename_i h0;rw[if_pos h0];exact h
   rename_i h0;rw[if_neg h0];split at h
   ·rename_i h1;rw[if_pos h1];split at h
    ·rename_i h2;rw[if_pos h2];exact h
    rename_i h2;rw[if_neg h2];cases hh:UX l f .tests (i+2) (n+1) T with
    |none=>rw[hh] at h;cases h
    |some x=>rw[hh] at h;rw[ih _ _ _ _ _ hh];exact h
   rename_i h1;rw[if_neg h1];exact h
  |list ks =>
   rw[UX] at h ⊢;split at h
   ·rename_i h0;rw[if_pos h0];cases hh:UX l f .one (i+1) n T with
    |none=>rw[hh] at h;cases h
    |some x =>
     rw[hh] at h;rw[ih _ _ _ _ _ hh];cases x with
     |ok k i' n' T'=>exact ih _ _ _ _ _ h
     |oks ks i' n' T'=>exact h
     |pan e i'=>exact h
   rename_i h0;rw[if_neg h0];exact h
  |tests =>
   rw[UX] at h ⊢;cases hh:UX l f .one i n T with
   |none=>rw[hh] at h;cases h
   |some x =>
    rw[hh] at h;rw[ih _ _ _ _ _ hh];cases x with
    |ok k i' n' T' =>
     dsimp only at h ⊢;cases hh2:UX l f (.list [k]) i' n' T' with
     |none=>rw[hh2] at h;cases h
     |some y=>rw[hh2] at h;rw[ih _ _ _ _ _ hh2];exact h
    |oks ks i' n' T'=>exact h
    |pan e i'=>exact h
def STst.sh(m:Nat)(x:STst):STst:={ x with kids:=x.kids.map fun k=>k+m }
def USim(l l':List Tok)(n0 δ:Nat):Prop:=SmW l l' n0 δ∧l.length+δ≤l'.length∧∀t,l'[l.length+δ]?=some t→t.k=7∧(t.s=[44]∨t.s=[41])
theorem wU{l:List Tok}{i:Nat}{v w:List Nat}(h:isW l i v=true)(hw:v≠w):isW l i w=false:=by
 unfold isW at h ⊢;split at h
 ·rename_i t ht;simp only[Bool.and_eq_true,beq_iff_eq] at h;rw[h.2];have:(v==w)=false:=by simpa using hw
  simp [this]
 cases h
theorem USim.end_{l l':List Tok}{n0 δ:Nat}(h:USim l l' n0 δ)(w:List Nat)(h1:w≠[44])(h2:w≠[41]):isW l' (l.length+δ) w=false:=by
 unfold isW;split
 ·rename_i t ht;have:(t.s==w)=false:=by
   rcases(h.2.2 t ht).2 with h3|h3<;>rw[h3]<;>simp<;>intro h4
   ·exact h1 h4.symm
   exact h2 h4.symm
  simp [this]
 rfl
theorem USim.noOp{l l':List Tok}{n0 δ:Nat}(h:USim l l' n0 δ):NoOp l' (l.length+δ):=by
 intro n;have e:=h.end_
 match n with
 |0=>simp only[opsX,wL,e _ (by decide:[111,114]≠[44]) (by decide)];rfl
 |1=>simp only[opsX,wL,e _ (by decide:[97,110,100]≠[44]) (by decide)];rfl
 |2=>rfl
 |3=>simp only[opsX,wL,e _ (by decide:[61]≠[44]) (by decide),e _ (by decide:[60,62]≠[44]) (by decide),e _ (by decide:[60]≠[44]) (by decide),e _ (by decide:[60,61]≠[44]) (by decide),e _ (by decide:[62]≠[44]) (by decide),e _ (by decide:[62,61]≠[44]) (by decide)];rfl
 |4=>simp only[opsX,wL,e _ (by decide:[43]≠[44]) (by decide),e _ (by decide:[45]≠[44]) (by decide)];rfl
 |5=>simp only[opsX,wL,e _ (by decide:[42]≠[44]) (by decide),e _ (by decide:[47]≠[44]) (by decide)];rfl
 |n+6=>rfl
def TSim(pre:List STst)(T T':List Test):Prop:=T'.map Test.s=pre++(T.map Test.s).map (STst.sh pre.length)
theorem TSim.len{pre:List STst}{T T':List Test}(h:TSim pre T T'):T'.length=T.length+pre.length:=by
 have:=congrArg List.length h;simp at this;omega
theorem TSim.snoc{pre:List STst}{T T':List Test}{x y:Test}(h:TSim pre T T')(hx:y.s=x.s.sh pre.length):TSim pre (T++[x]) (T'++[y]):=by
 unfold TSim at h ⊢;simp only[List.map_append,List.map_cons,List.map_nil,h,hx,List.append_assoc]
theorem zEr (op:Int) (a a' b b':List Node) (low high:Bool) (kids:List Nat) (p q:Int×Int) (m:Nat) (ha:a'.map Node.s=a.map Node.s) (hb:b'.map Node.s=b.map Node.s) :
  (yY op a' b' low high (kids.map (·+m)) q).s=(yY op a b low high kids p).s.sh m:=by
 simp only[zHP,STst.sh,ha,hb,xU,List.map_map]
 congr 1
theorem zI6{l l':List Tok}{n0 δ i:Nat}(h:SmW l l' n0 δ)(hn:n0≤i)(hi:i<l.length):∀os,wQ l' (i+δ) os=wQ l i os
 |[]=>rfl
 |o::os=>by unfold wQ;rw[vJ h hn hi,zI6 h hn hi os]
theorem zMv {l l':List Tok} {n0 δ:Nat} (hs:USim l l' n0 δ) {pre:List STst} {T T':List Test} (hT:TSim pre T T') {op:Int} {p q:Int×Int} {i n k i1 n1:Nat} {T1:List Test}
  (hn:n0≤i) (hi:i≤l.length) (h:cmpX l op p i n T=.ok k i1 n1 T1):∃T1',cmpX l' op q (i+δ) n T'=.ok (k+pre.length) (i1+δ) n1 T1'∧TSim pre T1 T1':=by
 unfold cmpX at h ⊢;split at h
 ·rename_i h0;obtain⟨h1,h2,h3⟩:=zCt hs.1 hs.noOp hn hi (by have:=hs.2.1;omega) h0;rw[if_pos h1];cases h;refine⟨_,by rw[h2,hT.len],hT.snoc ?_⟩;exact zEr op _ _ [] [] false false [] p q _ h3 rfl
 cases h
theorem zE9{l:List Tok}{f:Nat}{ks K:List Nat}{i n i1 n1:Nat}{T T1:List Test}(h:UX l f (.list ks) i n T=some (.oks K i1 n1 T1)):isW l i [44]=true∨i1=i:=by
 cases f with
 |zero=>simp [UX] at h
 |succ f =>
  rw[UX] at h;split at h
  ·rename_i hc;simp only[Bool.and_eq_true] at hc;exact .inl hc.1
  cases h;exact .inr rfl
theorem to7 {l:List Tok} {i:Nat} (hi:i≤l.length) (h:(zG l i).2.2=0) (hn:isW l i [110,111,116]=false) :
  ∃f a i1 d1 T,PX l f (.lev 6) i 0 []=some (.ok a i1 d1 T)∧T.length≤60:=by
 obtain⟨f,a,i1,d1,T,h1,h2,h3⟩:=(zFe hi).1 h;have down:∀n,n=0∨n=1∨n=3∨n=4∨n=5→∀f a i1 d1 T,PX l f (.lev n) i 0 []=some (.ok a i1 d1 T)→T.length≤60→∃f a i1 d1 T,PX l f (.lev (n+1)) i 0 []=some (.ok a i1 d1 T)∧T.length≤60:=by
  intro n hn f a i1 d1 T h h60;cases f with
  |zero=>simp [PX] at h
  |succ f =>
   rw[PX,if_neg (by omega),if_pos (by omega)] at h;split at h
   ·rename_i hh;have:=zOE _ _ _ _ _ _ _ _ _ h;exact⟨_,_,_,_,_,hh,by omega⟩
   rename_i hne;exact absurd h (hne _ _ _ _)
 obtain⟨f,a,i1,d1,T,h1,h2⟩:=down 0 (by omega) _ _ _ _ _ h1 h2;obtain⟨f,a,i1,d1,T,h1,h2⟩:=down 1 (by omega) _ _ _ _ _ h1 h2;obtain⟨f,a,i1,d1,T,h1,h2⟩:∃f a i1 d1 T,PX l f (.lev 3) i 0 []=some (.ok a i1 d1 T)∧T.length≤60:=by
  cases f with
  |zero=>simp [PX] at h1
  |succ f =>
   rw[PX,if_pos (by omega),if_neg (by rw[show wX (1+1)=[110,111,116] from rfl,hn];simp)] at h1;exact⟨_,_,_,_,_,h1,h2⟩
 obtain⟨f,a,i1,d1,T,h1,h2⟩:=down 3 (by omega) _ _ _ _ _ h1 h2;obtain⟨f,a,i1,d1,T,h1,h2⟩:=down 4 (by omega) _ _ _ _ _ h1 h2;exact down 5 (by omega) _ _ _ _ _ h1 h2
theorem zIf{w:List Nat}(h:w=[44]∨w=[41]∨w=[91]∨w=[40]):kN w zCI=none∧kN w zDh=none:=by
 rcases h with rfl|rfl|rfl|rfl<;>exact⟨by decide,by decide⟩
theorem zO4{l:List Tok}{i:Nat}(hw:isW l i [45]=true)(hb:∀t,l[i+1]?=some t→(t.k=1∨t.k=7)∧(t.s=[44]∨t.s=[41])):(zG l i).2.2≠0:=by
 have hlt:=yC hw;intro h;obtain⟨f,a,i1,d1,T,h1,h2⟩:=to7 (by omega) h (wU hw (by decide));cases f with
 |zero=>simp [PX] at h1
 |succ f =>
  rw[PX,if_pos (by omega),if_pos (by exact hw),if_neg (by omega)] at h1;split at h1
  ·rename_i hh;cases f with
   |zero=>simp [PX] at hh
   |succ f =>
    have nope:∀w,w=[45]∨w=[40]→isW l (i+1) w=false:=by
     intro w hw';unfold isW;split
     ·rename_i t ht;obtain⟨_,h1⟩:=hb t ht;have:(t.s==w)=false:=by rcases hw' with rfl|rfl<;>rcases h1 with h1|h1<;>rw[h1]<;>decide
      simp [this]
     rfl
    rw[PX,if_pos (by omega),if_neg (by rw[show wX 6=[45] from rfl,nope _ (.inl rfl)];simp)] at hh;cases f with
    |zero=>simp [PX] at hh
    |succ f =>
     rw[PX,if_neg (by omega),if_neg (by omega)] at hh;split at hh
     ·cases hh
     rename_i t ht;obtain⟨hk,hts⟩:=hb t ht;obtain⟨f1,f2⟩:=zIf (w:=t.s) (by rcases hts with h|h<;>simp [h]);rw[if_neg (by omega),if_neg (by omega),if_neg (by omega),nope _ (.inr rfl),f1,f2] at hh;split at hh
     ·cases hh
     simp at hh
  rename_i hne;exact absurd h1 (hne _ _ _ _)
theorem zTq {l:List Tok} {i:Nat} (hi:i≤l.length) (h:(zG l i).2.2=0) (hw:isW l i [91]=true∨isW l i [40]=true) :
  (zG l (i+1)).2.2=0∧isW l (zG l (i+1)).2.1 [41]=true:=by
 have hn:isW l i [110,111,116]=false:=hw.elim (fun h=>wU h (by decide)) (fun h=>wU h (by decide));have hm:isW l i [45]=false:=hw.elim (fun h=>wU h (by decide)) (fun h=>wU h (by decide));have hlt:=hw.elim yC yC;obtain⟨f,a,i1,d1,T,h1,h2⟩:=to7 hi h hn;cases f with
 |zero=>simp [PX] at h1
 |succ f =>
  rw[PX,if_pos (by omega),if_neg (by rw[show wX 6=[45] from rfl,hm];simp)] at h1;cases f with
  |zero=>simp [PX] at h1
  |succ f =>
   rw[PX,if_neg (by omega),if_neg (by omega)] at h1;rw[List.getElem?_eq_getElem hlt] at h1;dsimp only at h1;have hts:(l[i].k=1∨l[i].k=7)∧(l[i].s=[91]∨l[i].s=[40]):=by
    unfold isW at hw;rw[List.getElem?_eq_getElem hlt] at hw;simp only[Bool.and_eq_true,Bool.or_eq_true,beq_iff_eq] at hw;exact⟨hw.elim (·.1) (·.1),hw.imp (·.2) (·.2)⟩
   obtain⟨f1,f2⟩:=zIf (w:=l[i].s) (by rcases hts.2 with h|h<;>simp [h]);have hk:=hts.1;rw[if_neg (by omega),if_neg (by omega),if_neg (by omega),f1,f2] at h1;dsimp only at h1;split at h1
   ·cases h1
   split at h1
   ·rw[if_neg (by omega)] at h1;split at h1
    ·rename_i a0 i0 d0 T0 hh;split at h1
     ·rename_i hw2;cases h1;have hi0:=yC hw2;have hid:SmW l l 0 0:=fun j t _ ht=>⟨t,ht,rfl⟩
      have hno:NoOp l (l.length+0):=fun n=>by
       by_cases h0:wL l (l.length+0) (opsX n)=0
       ·exact h0
       have:=zBZ h0;omega
      obtain⟨d2,T2,h4,h5⟩:=zG7 hid hno f _ _ _ _ _ _ _ _ _ hh (.lev 0) (Nat.zero_le _) (by omega) (by omega) trivial 0 [] (by omega) rfl;have:=zLe (l:=l) (i:=i+1) (by omega) h4 (by rw[zBt h5];exact h2);rw[this];exact⟨rfl,hw2⟩
     cases h1
    rename_i hne;exact absurd h1 (hne _ _ _ _)
   cases h1
def zMc(l:List Tok)(i:Nat):Prop:=i=l.length∨isW l i [44]=true∨isW l i [41]=true
theorem zWl{l l':List Tok}{n0 δ i:Nat}(hs:USim l l' n0 δ)(hn:n0≤i)(hi:i≤l.length):jT l' (i+δ)=jT l i:=by
 unfold jT;rcases Nat.lt_or_ge i l.length with hlt|hge
 ·obtain⟨t',h1,h2⟩:=hs.1 i l[i] hn (List.getElem?_eq_getElem hlt);simp only[Tok.b,Prod.mk.injEq] at h2;rw[h1,List.getElem?_eq_getElem hlt];dsimp only;rw[h2.1];rcases Nat.lt_or_ge (i+1) l.length with hlt2|hge2
  ·rw[show i+δ+1=i+1+δ by omega,vJ hs.1 (by omega) hlt2]
  rw[show i+δ+1=l.length+δ by omega,hs.end_ _ (by decide) (by decide)];have:isW l (i+1) [58]=false:=by
   cases h:isW l (i+1) [58] with
   |false=>rfl
   |true=>have:=yC h;omega
  rw[this]
 obtain rfl:i=l.length:=by omega
 rw[List.getElem?_eq_none (Nat.le_refl l.length)];cases h:l'[l.length+δ]? with
 |none=>rfl
 |some t =>
  have:=(hs.2.2 t h).1;dsimp only;rw[this]
  rfl
theorem zV6{l l':List Tok}{n0 δ i:Nat}(hs:USim l l' n0 δ)(hn:n0≤i)(hi:i≤l.length)(w:List Nat)(h1:w≠[44])(h2:w≠[41]):isW l' (i+δ) w=isW l i w:=by
 rcases Nat.lt_or_ge i l.length with hlt|hge
 ·exact vJ hs.1 hn hlt w
 obtain rfl:i=l.length:=by omega
 rw[hs.end_ _ h1 h2];cases h:isW l l.length w with
 |false=>rfl
 |true=>have:=yC h;omega
theorem zSG{l l':List Tok}{n0 δ i i1:Nat}(hs:USim l l' n0 δ)(hn:n0≤i)(hi:i<l.length)(h:anyX l i=true→zMc l (i+1)):anyX l' (i+δ)=anyX l i:=by
 unfold anyX at h ⊢;rw[vJ hs.1 hn hi];cases hw:isW l i [45] with
 |false=>rfl
 |true =>
  simp only[Bool.true_and]
  by_cases he:(zG l i).2.2=0
  ·obtain⟨h1,_⟩:=zCt hs.1 hs.noOp hn (by omega) (by have:=hs.2.1;omega) he;rw[he,h1]
  have:anyX l i=true:=by simp [anyX,hw,he]
  have hst:=h (by rw[hw];simpa using he);have hm:=zO4 (l:=l') (i:=i+δ) (by rw[vJ hs.1 hn hi];exact hw) (fun t ht=>by
   have key:∀w,isW l (i+1) w=true→(w=[44]∨w=[41])→(t.k=1∨t.k=7)∧(t.s=[44]∨t.s=[41]):=fun w h2 h3=>by
    have hlt:=yC h2;have:=vJ hs.1 (by omega:n0≤i+1) hlt w;rw[h2] at this;unfold isW at this;rw[show i+1+δ=i+δ+1 by omega,ht] at this;simp only[Bool.and_eq_true,Bool.or_eq_true,beq_iff_eq] at this;exact⟨this.1,by rw[this.2];exact h3⟩
   rcases hst with h2|h2|h2
   ·rw[show i+δ+1=l.length+δ by omega] at ht;have:=hs.2.2 t ht;exact⟨.inr this.1,this.2⟩
   ·exact key _ h2 (.inl rfl)
   exact key _ h2 (.inr rfl))
  have e1:((zG l i).2.2 != 0)=true:=by simpa using he
  have e2:((zG l' (i+δ)).2.2 != 0)=true:=by simpa using hm
  rw[e1,e2]
theorem zSv{l l':List Tok}{n0 δ i:Nat}(hs:USim l l' n0 δ)(hn:n0≤i)(hi:i<l.length):notX l' (i+δ)=notX l i:=by
 unfold notX;rw[vJ hs.1 hn hi,show i+δ+1=i+1+δ by omega,zV6 hs (by omega) (by omega) _ (by decide) (by decide)]
theorem zIs {l l':List Tok} {n0 δ i:Nat} (hs:USim l l' n0 δ) (hn:n0≤i) (h:vZ l i=true) :
  vZ l' (i+δ)=true∧(zG l' (i+δ+1)).2.1=(zG l (i+1)).2.1+δ∧(zG l' (i+δ+1)).1.map Node.s=(zG l (i+1)).1.map Node.s:=by
 obtain⟨h1,h2,h3⟩:=zBv h;have hd:=yC h3;obtain⟨e1,e2,e3⟩:=zCt (i:=i+1) hs.1 hs.noOp (by omega) (by omega) (by have:=hs.2.1;omega) h2;have hge:=zEN (l:=l) (i:=i+1) (by omega) h2;rw[show i+δ+1=i+1+δ by omega];refine⟨?_,e2,e3⟩;unfold vZ at h ⊢;simp only[Bool.and_eq_true] at h ⊢;rw[vJ hs.1 hn h1,vJ hs.1 hn h1,show i+δ+1=i+1+δ by omega,e1,e2,vJ hs.1 (by omega) hd];exact⟨h.1,rfl,h3⟩
theorem zGY {l l':List Tok} {n0 δ i:Nat} (hs:USim l l' n0 δ) (hn:n0≤i) (hi:i<l.length) (h:vZ l i=false) (hp:isW l i [91]=true∨isW l i [40]=true→(zG l i).2.2=0) :
  vZ l' (i+δ)=false:=by
 by_cases hw:isW l i [91]=true∨isW l i [40]=true
 ·obtain⟨p1,p2⟩:=zTq (by omega) (hp hw) hw;have hlt:=yC p2;have hge:=zEN (l:=l) (i:=i+1) (by omega) p1;obtain⟨e1,e2,e3⟩:=zCt (i:=i+1) hs.1 hs.noOp (by omega) (by omega) (by have:=hs.2.1;omega) p1;unfold vZ;rw[show i+δ+1=i+1+δ by omega,e2,vJ hs.1 (by omega) hlt,wU p2 (by decide)];simp
 unfold vZ;rw[vJ hs.1 hn hi,vJ hs.1 hn hi];have h1:isW l i [91]=false:=by simpa using fun h=>hw (.inl h)
 have h2:isW l i [40]=false:=by simpa using fun h=>hw (.inr h)
 rw[h1,h2];rfl
theorem zTM {l l':List Tok} {n0 δ:Nat} (hs:USim l l' n0 δ) {pre:List STst} {T T':List Test} (hT:TSim pre T T') {i n k i1 n1:Nat} {T1:List Test}
  (hn:n0≤i) (hr:vZ l i=true) (h:rngX l i n T=.ok k i1 n1 T1):∃T1',rngX l' (i+δ) n T'=.ok (k+pre.length) (i1+δ) n1 T1'∧TSim pre T1 T1':=by
 obtain⟨h1,h2,h3⟩:=zBv hr;have hd:=yC h3;have hge:=zEN (l:=l) (i:=i+1) (by omega) h2;obtain⟨_,e2,e3⟩:=zIs hs hn hr;unfold rngX at h ⊢;rw[e2];split at h
 ·rename_i hb;obtain⟨b1,b2,b3⟩:=zCt (i:=(zG l (i+1)).2.1+1) hs.1 hs.noOp (by omega) (by omega) (by have:=hs.2.1;omega) hb;have hge2:=zEN (l:=l) (i:=(zG l (i+1)).2.1+1) (by omega) hb;rw[show (zG l (i+1)).2.1+δ+1=(zG l (i+1)).2.1+1+δ by omega,if_pos b1,b2];split at h
  ·rename_i hw;have hlt:(zG l ((zG l (i+1)).2.1+1)).2.1<l.length:=by
    simp only[Bool.or_eq_true] at hw;exact hw.elim yC yC
   rw[vJ hs.1 (by omega) hlt,vJ hs.1 (by omega) hlt,if_pos hw,vJ hs.1 hn h1];cases h;refine⟨_,by rw[hT.len,show (zG l ((zG l (i+1)).2.1+1)).2.1+δ+1=(zG l ((zG l (i+1)).2.1+1)).2.1+1+δ by omega],hT.snoc ?_⟩;exact zEr 7 _ _ _ _ _ _ [] _ _ _ e3 b3
  cases h
 cases h
theorem zHC{l l':List Tok}{n0 δ:Nat}(hs:USim l l' n0 δ){pre:List STst}:∀(f:Nat),
  (∀(i n k i1 n1:Nat) (T T1 T':List Test),UX l f .one i n T=some (.ok k i1 n1 T1)→n0≤i→i≤l.length→zMc l i1→TSim pre T T' →
   ∃g T1',UX l' g .one (i+δ) n T'=some (.ok (k+pre.length) (i1+δ) n1 T1')∧TSim pre T1 T1') ∧
  (∀(i n k i1 n1:Nat) (T T1 T':List Test),UX l f .tests i n T=some (.ok k i1 n1 T1)→n0≤i→i≤l.length→isW l i1 [41]=true→TSim pre T T' →
   ∃g T1',UX l' g .tests (i+δ) n T'=some (.ok (k+pre.length) (i1+δ) n1 T1')∧TSim pre T1 T1') ∧
  (∀(i n:Nat) (ks K:List Nat) (i1 n1:Nat) (T T1 T':List Test),UX l f (.list ks) i n T=some (.oks K i1 n1 T1)→n0≤i→i≤l.length→(i1=l.length∨isW l i1 [41]=true)→TSim pre T T' →
   ∃T1',TSim pre T1 T1'∧∀g r,UX l' g (.list (K.map (·+pre.length))) (i1+δ) n1 T1'=some r→∃g',UX l' g' (.list (ks.map (·+pre.length))) (i+δ) n T'=some r)
 |0=>⟨fun _ _ _ _ _ _ _ _ h=>by simp [UX] at h,fun _ _ _ _ _ _ _ _ h=>by simp [UX] at h,fun _ _ _ _ _ _ _ _ _ h=>by simp [UX] at h⟩
 |f+1=>by
  obtain⟨ihO,ihT,ihL⟩:=zHC hs (pre:=pre) f;refine⟨?_,?_,?_⟩
  ·intro i n k i1 n1 T T1 T' h hn hi hst hT;have hk:=yU _ _ _ _ _ _ h hi;obtain⟨_,k1,k2,k3,k4,k5,k6⟩:=hk;have hlt:i<l.length:=by omega
   rw[UX] at h;split at h
   ·rename_i ha;cases h;refine⟨1,_,?_,hT.snoc (zEr 1 [] [] [] [] false false [] (plW l i) (plW l' (i+δ)) _ rfl rfl)⟩;rw[UX,zSG (i1:=i+1) hs hn hlt (fun _=>hst),if_pos ha,hT.len,show i+δ+1=i+1+δ by omega]
    rfl
   rename_i ha;have ha':anyX l' (i+δ)=false:=by
    rw[zSG (i1:=i1) hs hn hlt (fun h=>absurd h ha)];simpa using ha
   split at h
   ·rename_i hnn;have hnn':=(zSv hs hn hlt).trans hnn;have hw2:i+1<l.length:=by
     simp only[notX,Bool.and_eq_true] at hnn;exact yC hnn.2
    split at h
    ·cases h
    rename_i hn4;split at h
    ·rename_i k0 i0 n0' T0 hh;split at h
     ·rename_i hw;have hlt0:=yC hw;have hk0:=yU _ _ _ _ _ _ hh (by omega);obtain⟨_,q1,q2,q3,q4,q5,q6⟩:=hk0;obtain⟨g,T1',h1,h2⟩:=ihT _ _ _ _ _ _ _ _ hh (by omega) (by omega) hw hT;cases h;refine⟨g+1,_,?_,h2.snoc (zEr 8 [] [] [] [] false false [k0] (plW l i) (plW l' (i+δ)) _ rfl rfl)⟩;rw[UX,ha',if_neg (by simp),if_pos hnn',if_neg hn4,show i+δ+2=i+2+δ by omega,h1];dsimp only;rw[vJ hs.1 (by omega) hlt0,if_pos hw,h2.len,show i0+δ+1=i0+1+δ by omega]
      rfl
     cases h
    rename_i hne;exact absurd h (hne _ _ _ _)
   rename_i hnn;have hnn':notX l' (i+δ)=false:=by rw[zSv hs hn hlt];simpa using hnn
   split at h
   ·rename_i hr;obtain⟨hr',_,_⟩:=zIs hs hn hr;obtain⟨T1',h1,h2⟩:=zTM hs hT hn hr (Option.some.inj h);exact⟨1,T1',by rw[UX,ha',if_neg (by simp),hnn',if_neg (by simp),if_pos hr',h1],h2⟩
   rename_i hr;split at h
   ·rename_i op hsg;have hr':vZ l' (i+δ)=false:=zGY hs hn hlt (by simpa using hr) (fun hw=>by
     exfalso;have:wQ l i wV=none:=by
      have o:∀w,w≠[91]→w≠[40]→isW l i w=false:=fun w w1 w2=>hw.elim (fun h=>wU h (fun e=>w1 e.symm)) (fun h=>wU h (fun e=>w2 e.symm))
      simp [wQ,wV,o]
     rw[this] at hsg;cases hsg)
    obtain⟨T1',h1,h2⟩:=zMv (q:=plW l' (i+δ)) hs hT (by omega) (by omega) (Option.some.inj h);refine⟨1,T1',?_,h2⟩;rw[UX,ha',if_neg (by simp),hnn',if_neg (by simp),hr',if_neg (by simp),zI6 hs.1 hn hlt,hsg];dsimp only;rw[show i+δ+1=i+1+δ by omega,h1]
   rename_i hsg;have hp:(zG l i).2.2=0:=by
    have h:=Option.some.inj h;unfold cmpX at h;split at h
    ·assumption
    cases h
   have hr':vZ l' (i+δ)=false:=zGY hs hn hlt (by simpa using hr) (fun _=>hp);obtain⟨T1',h1,h2⟩:=zMv (q:=plW l' (i+δ)) hs hT hn hi (Option.some.inj h);refine⟨1,T1',?_,h2⟩;rw[UX,ha',if_neg (by simp),hnn',if_neg (by simp),hr',if_neg (by simp),zI6 hs.1 hn hlt,hsg];dsimp only;rw[h1]
  ·intro i n k i1 n1 T T1 T' h hn hi hst hT;rw[UX] at h;split at h
   ·rename_i k0 i0 n0' T0 hh;obtain⟨_,q1,q2,q3,q4,q5,q6⟩:=yU _ _ _ _ _ _ hh hi;cases hl:UX l f (.list [k0]) i0 n0' T0 with
    |none=>rw[hl] at h;cases h
    |some r =>
     have hkl:=yU _ _ _ _ _ _ hl q2;rw[hl] at h;cases r with
     |ok k i' n' T'=>exact absurd hkl.1 id
     |pan e i'=>cases h
     |oks K i2 n2 T2 =>
      obtain⟨_,w1,w2,w3,w4,w5,m,w6,w7⟩:=hkl;have hi2:i2=i1:=by
       match K,h with
       |[],h=>cases h;rfl
       |[a],h=>cases h;rfl
       |a::b::c,h=>cases h;rfl
      subst hi2;obtain⟨g1,T1',h1,h2⟩:=ihO _ _ _ _ _ _ _ _ hh hn hi (by
       rcases zE9 hl with h|h
       ·exact .inr (.inl h)
       rw[← h];exact .inr (.inr hst)) hT
      obtain⟨T2',h3,h4⟩:=ihL _ _ _ _ _ _ _ _ _ hl (by omega) q2 (.inr hst) h2;have hlt:=yC hst;obtain⟨g2,h5⟩:=h4 1 (.oks (K.map (·+pre.length)) (i2+δ) n2 T2') (by
       rw[UX,vJ hs.1 (by omega) hlt,wU hst (by decide)];rfl)
      have h1':=jH _ _ _ _ _ _ h1 (max g1 g2) (by omega);have h5':=jH _ _ _ _ _ _ h5 (max g1 g2) (by omega)
      match K,h,h3,h5' with
      |[],h,_,_=>simp [UC.kl] at w6
      |[a],h,h3,h5' =>
       cases h;exact⟨max g1 g2+1,T2',by rw[UX,h1'];dsimp only;rw[show [k0+pre.length]=[k0].map (·+pre.length) from rfl,h5'];rfl,h3⟩
      |a::b::c,h,h3,h5' =>
       cases h;refine⟨max g1 g2+1,_,by rw[UX,h1'];dsimp only;rw[show [k0+pre.length]=[k0].map (·+pre.length) from rfl,h5'];rw[← h3.len];rfl,h3.snoc (zEr 9 [] [] [] [] false false (a::b::c) (plW l i) (plW l' (i+δ)) _ rfl rfl)⟩
   rename_i hne;exact absurd h (hne _ _ _ _)
  intro i n ks K i1 n1 T T1 T' h hn hi hst hT;rw[UX] at h;split at h
  ·rename_i hc;have hc':=hc;simp only[Bool.and_eq_true] at hc';have hlt:=yC hc'.1;split at h
   ·rename_i k0 i0 n0' T0 hh;obtain⟨_,q1,q2,q3,q4,q5,q6⟩:=yU _ _ _ _ _ _ hh (by omega);obtain⟨g1,T1',h1,h2⟩:=ihO _ _ _ _ _ _ _ _ hh (by omega) (by omega) (by
     rcases zE9 h with h|h
     ·exact .inr (.inl h)
     rw[← h];exact hst.elim .inl (fun h=>.inr (.inr h))) hT
    obtain⟨T2',h3,h4⟩:=ihL _ _ _ _ _ _ _ _ _ h (by omega) q2 hst h2;refine⟨T2',h3,fun g r hg=>?_⟩;obtain⟨g2,h5⟩:=h4 g r hg;have h1':=jH _ _ _ _ _ _ h1 (max g1 g2) (by omega);have h5':=jH _ _ _ _ _ _ h5 (max g1 g2) (by omega);refine⟨max g1 g2+1,?_⟩;rw[UX,vJ hs.1 hn hlt,show i+δ+1=i+1+δ by omega,zWl hs (by omega) (by omega),if_pos hc,h1'];dsimp only;rw[List.map_append] at h5';exact h5'
   have:=yU _ _ _ _ _ _ h (by omega);exact absurd this.1 id
  cases h;exact⟨T',hT,fun g r hg=>⟨g,hg⟩⟩
abbrev BTok:=Int×List Nat×Val
def wN(c:Nat):Bool:=Nat.ble 97 c&&Nat.ble c 122
def yQ(c:Nat):Bool:=Nat.ble 48 c&&Nat.ble c 57
def xF(c:Nat):Bool:=wN c||yQ c
def cntW(p:Nat→Bool):List Nat→Nat
 |[]=>0
 |c::r=>if p c then cntW p r+1 else 0
def strN:Bool→List Nat→Nat
 |_,[]=>0
 |esc,c::r=>if (c==34&&!esc)||Nat.blt c 32||Nat.blt 126 c then 0 else strN (c==92&&!esc) r+1
def signs2:List (List Nat):=[[60,61],[62,61],[60,62],[46,46]]
def signs1:List Nat:=[40,41,91,93,44,58,61,60,62,43,45,42,47]
def nth0(s:List Nat)(i:Nat):Nat:=(s[i]?).getD 0
def numN(s:List Nat):Nat :=
 let n:=cntW yQ s
 if nth0 s n=46∧yQ (nth0 s (n+1)) then n+1+cntW yQ (s.drop (n+1)) else n
def VSym(s:List Nat):Val:=⟨5,0,s⟩
def xO(vp:List Nat→Val×Int)(s:List Nat):BTok×Nat×Int :=
 let c:=nth0 s 0
 let own:=(s.drop 1).take (cntW xF (s.drop 1))
 let is:=wN (nth0 s 1)
 let named (t:BTok) (n:Nat):BTok×Nat×Int:=(t,n,if 12<t.2.1.length then 4 else 0)
 if wN c then named (1,s.take (cntW xF s),VZ) (cntW xF s)
 else if yQ c then
  let n:=numN s
  let r:=vp (s.take n)
  ((4,s.take n,r.1),n,if r.2=0∨r.2=9 then r.2 else 4)
 else if c=34 then
  let n:=strN false (s.drop 1)
  if nth0 s (n+1)=34 then
   let r:=vp (s.take (n+2))
   ((5,(s.drop 1).take n,r.1),n+2,if r.2=0 then 0 else 4)
  else ((0,[],VZ),0,4)
 else if c=63∧is then named (2,own,VZ) (1+own.length)
 else if c=63 then ((3,[],VZ),1,0)
 else if c=35∧is then named (6,own,VSym own) (1+own.length)
 else if s.take 2 ∈ signs2 then ((7,s.take 2,VZ),2,0)
 else if c ∈ signs1 then ((7,[c],VZ),1,0)
 else ((0,[],VZ),0,4)
def lexB(vp:List Nat→Val×Int):List Nat→Option (List BTok)
 |[]=>some []
 |c::r =>
  if c=10∨c=32 then lexB vp r
  else if c=59 then lexB vp (r.drop (cntW (fun c=>c != 10) r))
  else if (xO vp (c::r)).2.2=0 then
   match lexB vp (r.drop ((xO vp (c::r)).2.1 - 1)) with
   |some l=>some ((xO vp (c::r)).1::l)
   |none=>none
  else none
 termination_by s=>s.length
 decreasing_by all_goals (simp only[List.length_drop,List.length_cons];omega)
theorem zFz{p:Nat→Bool}(hp:p 10=false)(r:List Nat):∀s,cntW p (s++10::r)=cntW p s
 |[]=>by simp [cntW,hp]
 |c::s=>by simp only[List.cons_append,cntW,zFz hp r s]
theorem kP(p:Nat→Bool):∀s,cntW p s≤s.length
 |[]=>Nat.le_refl _
 |c::s=>by
  unfold cntW;have:=kP p s;split<;>simp<;>omega
theorem zOW(r:List Nat):∀s e,strN e (s++10::r)=strN e s
 |[],e=>by cases e<;>simp [strN]<;>decide
 |c::s,e=>by simp only[List.cons_append,strN,zOW r s]
theorem zKP:∀s e,strN e s≤s.length
 |[],e=>Nat.le_refl _
 |c::s,e=>by
  unfold strN;have:=zKP s (c==92&&!e);split<;>simp<;>omega
theorem zFB(s r:List Nat)(i:Nat):nth0 (s++10::r) i=if i<s.length then nth0 s i else nth0 (10::r) (i - s.length):=by
 unfold nth0;rw[List.getElem?_append];split<;>rfl
theorem zC6{s:List Nat}{i:Nat}(h:s.length≤i):nth0 s i=0:=by
 unfold nth0;rw[List.getElem?_eq_none h];rfl
theorem zFx{s r:List Nat}{n:Nat}(h:n≤s.length):(s++10::r).take n=s.take n:=by
 rw[List.take_append_of_le_length h]
theorem zKU(s:List Nat):numN s≤s.length:=by
 unfold numN;have h1:=kP yQ s;simp only;split
 ·rename_i h;have h2:=kP yQ (s.drop (cntW yQ s+1));rw[List.length_drop] at h2;have h3:cntW yQ s+1<s.length:=by
   rcases Nat.lt_or_ge (cntW yQ s+1) s.length with h'|h'
   ·exact h'
   rw[zC6 h'] at h;exact absurd h.2 (by decide)
  omega
 exact h1
theorem zVQ(s r:List Nat):numN (s++10::r)=numN s:=by
 unfold numN;simp only[zFz (p:=yQ) (by decide) r];have h1:=kP yQ s;generalize cntW yQ s=n at *;have hd:∀i,s.length≤i+1→¬ (nth0 s i=46∧yQ (nth0 s (i+1))=true):=fun i hi h=>by rw[zC6 hi] at h;exact absurd h.2 (by decide)
 have he:∀i,s.length≤i+1→i≤s.length→¬ (nth0 (s++10::r) i=46∧yQ (nth0 (s++10::r) (i+1))=true):=fun i hi hi2 h=>by
  rw[zFB,zFB] at h;rcases Nat.lt_or_ge i s.length with h'|h'
  ·rw[if_neg (by omega:¬ i+1<s.length)] at h;have:i+1 - s.length=0:=by omega
   rw[this] at h;exact absurd h.2 (by simp [nth0];decide)
  rw[if_neg (by omega)] at h;have:i - s.length=0:=by omega
  rw[this] at h;exact absurd h.1 (by simp [nth0])
 rcases Nat.lt_or_ge (n+1) s.length with h|h
 ·have e1:nth0 (s++10::r) n=nth0 s n:=by rw[zFB,if_pos (by omega)]
  have e2:nth0 (s++10::r) (n+1)=nth0 s (n+1):=by rw[zFB,if_pos h]
  rw[e1,e2,List.drop_append_of_le_length (by omega),zFz (by decide)]
 rw[if_neg (he n h h1),if_neg (hd n h)]
theorem zTB(vp:List Nat→Val×Int)(c:Nat)(s r:List Nat):xO vp (c::s++10::r)=xO vp (c::s):=by
 have e0:nth0 (c::s++10::r) 0=c:=rfl;have e0':nth0 (c::s) 0=c:=rfl;have d1:(c::s++10::r).drop 1=s++10::r:=rfl;have d1':(c::s).drop 1=s:=rfl;have e1:wN (nth0 (c::s++10::r) 1)=wN (nth0 (c::s) 1):=by
  cases s with
  |nil=>show wN 10=wN 0;decide
  |cons a s=>rfl
 have c1:=zFz (p:=xF) (by decide) r;have t1:(s++10::r).take (cntW xF s)=s.take (cntW xF s):=zFx (kP _ _);have t2:(c::s++10::r).take (cntW xF (c::s))=(c::s).take (cntW xF (c::s)):=zFx (kP _ _);have t3:(c::s++10::r).take (numN (c::s))=(c::s).take (numN (c::s)):=zFx (zKU _);have sl:=zKP s false;have s4:(s++10::r).take (strN false s)=s.take (strN false s):=zFx sl;have two:(c::s++10::r).take 2 ∈ signs2↔(c::s).take 2 ∈ signs2:=by
  cases s with
  |nil=>simp [signs2]
  |cons a s=>simp
 have two':(c::s).take 2 ∈ signs2→(c::s++10::r).take 2=(c::s).take 2:=fun h=>by
  cases s with
  |nil=>simp [signs2] at h
  |cons a s=>simp
 have q:nth0 (c::s++10::r) (strN false s+1)=34↔nth0 (c::s) (strN false s+1)=34:=by
  rw[zFB];split
  ·exact Iff.rfl
  rename_i h;simp only[List.length_cons] at h;rw[zC6 (s:=c::s) (by simp;omega)];have:strN false s+1 - (c::s).length=0:=by simp;omega
  rw[this];simp [nth0]
 have q':nth0 (c::s) (strN false s+1)=34→(c::s++10::r).take (strN false s+2)=(c::s).take (strN false s+2):=fun h=>by
  refine zFx ?_;rcases Nat.lt_or_ge (strN false s+1) (c::s).length with h'|h'
  ·omega
  rw[zC6 h'] at h;cases h
 unfold xO;simp only[e0,e0',d1,d1',e1,c1 s,c1 (c::s),t1,t2,zVQ,t3,zOW,s4];split
 ·rfl
 split
 ·rfl
 split
 ·by_cases h:nth0 (c::s) (strN false s+1)=34
  ·rw[if_pos h,if_pos (q.2 h),q' h]
  rw[if_neg h,if_neg (fun h'=>h (q.1 h'))]
 split
 ·rfl
 split
 ·rfl
 split
 ·rfl
 by_cases h:(c::s).take 2 ∈ signs2
 ·rw[if_pos h,if_pos (two.2 h),two' h]
 rw[if_neg h,if_neg (fun h'=>h (two.1 h'))]
theorem zIE(vp:List Nat→Val×Int)(c:Nat)(s:List Nat)(h:(xO vp (c::s)).2.2=0):(xO vp (c::s)).2.1≤s.length+1:=by
 have c1:=kP xF (c::s);have c2:=kP xF s;have c3:=zKU (c::s);unfold xO at h ⊢;simp only[List.drop_succ_cons,List.drop_zero,List.length_cons] at *;split
 ·simpa using c1
 rename_i h0;rw[if_neg h0] at h;split
 ·simpa using c3
 rename_i h0;rw[if_neg h0] at h;split
 ·rename_i h1;rw[if_pos h1] at h;split
  ·rename_i h2;have:strN false s+1<(c::s).length:=by
    rcases Nat.lt_or_ge (strN false s+1) (c::s).length with h'|h'
    ·exact h'
    rw[zC6 h'] at h2;cases h2
   simp only[List.length_cons] at this;show strN false s+2≤s.length+1;omega
  exact Nat.zero_le _
 rename_i h0;rw[if_neg h0] at h;have c4:((s.take (cntW xF s))).length≤s.length:=by rw[List.length_take];omega
 split
 ·simp only;omega
 split
 ·simp only;omega
 split
 ·simp only;omega
 split
 ·rename_i h2;cases s with
  |nil=>simp [signs2] at h2
  |cons a s=>simp
 split
 ·simp only;omega
 exact Nat.zero_le _
theorem zHT(vp:List Nat→Val×Int):∀(s r:List Nat),lexB vp (s++10::r)=match lexB vp s with
  |some a=>(match lexB vp r with
   |some b=>some (a++b)
   |none=>none)
  |none=>none
 |[],r=>by
  have h1:lexB vp (10::r)=lexB vp r:=by rw[lexB,if_pos (.inl rfl)]
  have h2:lexB vp []=some []:=by rw[lexB]
  rw[List.nil_append,h1,h2];cases lexB vp r<;>rfl
 |c::s,r=>by
  rw[List.cons_append,lexB,lexB];split
  ·exact zHT vp s r
  split
  ·rw[zFz (by decide),List.drop_append_of_le_length (kP _ _)];exact zHT vp (s.drop _) r
  rw[← List.cons_append,zTB];split
  ·rename_i hw;have:=zIE vp c s hw;rw[List.drop_append_of_le_length (by omega),zHT vp (s.drop _) r];cases lexB vp (s.drop ((xO vp (c::s)).2.1 - 1)) with
   |none=>rfl
   |some a =>
    dsimp only;cases lexB vp r<;>rfl
  rfl
 termination_by s=>s.length
 decreasing_by all_goals (simp only[List.length_drop,List.length_cons];omega)
def UXF(l:List Tok)(i:Nat):Option RU:=UX l (4 * (l.length - i)+3) .tests i 0 []
def xW(l:List Tok)(i:Nat):List Test×Nat×Int :=
 match UXF l i with
 |some (.ok _ i' _ T)=>if 30<T.length then ([],i,7) else (T,i',0)
 |some (.pan e i')=>([],i',e)
 |_=>([],0,4)
theorem zHr{l:List Tok}{i:Nat}(hi:i≤l.length)(h:(xW l i).2.2=0):∃f k n,UX l f .tests i 0 []=some (.ok k (xW l i).2.1 n (xW l i).1)∧(xW l i).1.length≤30:=by
 obtain⟨r,hr⟩:=zEi (l:=l) (4 * (l.length - i)+3) .tests i 0 [] (by simp [UC.need]) hi;have hk:=yU _ _ _ _ _ _ hr hi;have hr':UXF l i=some r:=hr;unfold xW at h ⊢;rw[hr'] at h ⊢;cases r with
 |ok k i' n T =>
  dsimp only at h ⊢;split at h
  ·cases h
  rename_i h30;rw[if_neg h30];exact⟨_,k,n,hr,by dsimp only;omega⟩
 |oks ks i' n T=>exact absurd hk.1 id
 |pan e i' =>
  have:=hk.2.1;dsimp only at h;omega
def preR(P:List Nat):RU→RU
 |.oks K i n T=>.oks (P++K) i n T
 |r=>r
theorem zNu{l:List Tok}(P:List Nat):∀(f:Nat) (ks:List Nat) (i n:Nat) (T:List Test) (r:RU),UX l f (.list ks) i n T=some r→i≤l.length→UX l f (.list (P++ks)) i n T=some (preR P r)
 |0,ks,i,n,T,r,h,_=>by simp [UX] at h
 |f+1,ks,i,n,T,r,h,hi=>by
  rw[UX] at h ⊢;split at h
  ·rename_i hc;rw[if_pos hc];have hc':=hc;simp only[Bool.and_eq_true] at hc';have:=yC hc'.1;cases hh:UX l f .one (i+1) n T with
   |none=>rw[hh] at h;cases h
   |some x =>
    have hk:=yU _ _ _ _ _ _ hh (by omega);rw[hh] at h;cases x with
    |ok k i' n' T' =>
     dsimp only at h ⊢;have:=zNu P f _ _ _ _ _ h hk.2.2.1;rw[← List.append_assoc] at this;exact this
    |oks ks i' n' T'=>exact absurd hk.1 id
    |pan e i'=>cases h;rfl
  rename_i hc;rw[if_neg hc];cases h;rfl
def zD8(ks:List Nat):STst:=⟨9,[],[],false,false,xU ks⟩
def zUA(A:List STst)(K:List Nat):List STst :=
 match K with
 |[_]=>A
 |_=>A++[zD8 K]
structure Reads (l:List Tok) (T:List Test) (A:List Test) (K:List Nat):Prop where
 one:∃f k i n T0,UX l f .one 0 0 []=some (.ok k i n T0)∧i≤l.length∧∃n',UX l f (.list [k]) i n T0=some (.oks K l.length n' A)
 all:T.map Test.s=zUA (A.map Test.s) K
 ne:K≠[]
 lt:∀k ∈ K,k<A.length
theorem zMT{l:List Tok}{f k n:Nat}{T:List Test}(h:UX l f .tests 0 0 []=some (.ok k l.length n T)):∃A K,Reads l T A K:=by
 cases f with
 |zero=>simp [UX] at h
 |succ f =>
  rw[UX] at h;split at h
  ·rename_i k0 i0 n0 T0 hh;obtain⟨_,q1,q2,q3,q4,q5,q6⟩:=yU _ _ _ _ _ _ hh (Nat.zero_le _);cases hl:UX l f (.list [k0]) i0 n0 T0 with
   |none=>rw[hl] at h;cases h
   |some r =>
    have hkl:=yU _ _ _ _ _ _ hl q2;rw[hl] at h;cases r with
    |ok k i' n' T'=>exact absurd hkl.1 id
    |pan e i'=>cases h
    |oks K i2 n2 T2 =>
     obtain⟨_,w1,w2,w3,w4,w5,m,w6,w7⟩:=hkl;have hne:K≠[]:=by rw[w6];simp [UC.kl]
     have hlt:∀k ∈ K,k<T2.length:=fun k hk=>by
      rw[w6] at hk;simp only[UC.kl,List.cons_append,List.nil_append,List.mem_cons] at hk;rcases hk with rfl|hk
      ·omega
      exact w7 k hk
     match K,h,hne,hlt,hl with
     |[],_,hne,_,_=>exact absurd rfl hne
     |[a],h,hne,hlt,hl =>
      cases h;exact⟨_,_,⟨f,k0,i0,n0,T0,hh,q2,_,hl⟩,rfl,hne,hlt⟩
     |a::b::c,h,hne,hlt,hl =>
      cases h;refine⟨T2,a::b::c,⟨f,k0,i0,n0,T0,hh,q2,_,hl⟩,?_,hne,hlt⟩;simp only[List.map_append,List.map_cons,List.map_nil,zHP]
      rfl
  rename_i hne;exact absurd h (hne _ _ _ _)
theorem zSi{l l':List Tok}{a b:List BTok}(h:l'.map Tok.b=a++(l.map Tok.b++b)):SmW l l' 0 a.length:=by
 intro j t _ ht;have hj:=getElem?_lt ht;have h1:(l'.map Tok.b)[j+a.length]?=some t.b:=by
  rw[h,List.getElem?_append_right (by omega),Nat.add_sub_cancel,List.getElem?_append_left (by simpa using hj),List.getElem?_map,ht];rfl
 rw[List.getElem?_map] at h1;cases hl:l'[j+a.length]? with
 |none=>rw[hl] at h1;cases h1
 |some t'=>rw[hl] at h1;exact⟨t',rfl,Option.some.inj h1⟩
def comma:BTok:=(7,[44],VZ)
theorem zPV {l1 l2 l3:List Tok} (h:l3.map Tok.b=l1.map Tok.b++comma::l2.map Tok.b) {T1 T2 T3 A1 A2:List Test} {K1 K2:List Nat} (r1:Reads l1 T1 A1 K1) (r2:Reads l2 T2 A2 K2)
  {f3 k3 n3:Nat} (h3:UX l3 f3 .tests 0 0 []=some (.ok k3 l3.length n3 T3)) :
  T3.map Test.s=(A1.map Test.s++(A2.map Test.s).map (STst.sh A1.length))++[zD8 (K1++K2.map (·+A1.length))]:=by
 have hlen:l3.length=l1.length+1+l2.length:=by
  have:=congrArg List.length h;simp at this;omega
 have htok:∃t,l3[l1.length]?=some t∧t.k=7∧t.s=[44]:=by
  have h1:(l3.map Tok.b)[l1.length]?=some comma:=by
   rw[h,List.getElem?_append_right (by simp)];simp
  rw[List.getElem?_map] at h1;cases hl:l3[l1.length]? with
  |none=>rw[hl] at h1;cases h1
  |some t =>
   rw[hl] at h1;have h2:t.b=comma:=Option.some.inj h1;simp only[Tok.b,comma,Prod.mk.injEq] at h2;exact⟨t,rfl,h2.1,h2.2.1⟩
 obtain⟨tc,htc,tk,ts⟩:=htok;have u1:USim l1 l3 0 0:=⟨zSi (a:=[]) (b:=comma::l2.map Tok.b) (by simpa using h),by omega,fun t ht=>by
  rw[Nat.add_zero,htc] at ht;cases ht;exact⟨tk,.inl ts⟩⟩
 have u2:USim l2 l3 0 (l1.length+1):=⟨by
  have:=zSi (l:=l2) (l':=l3) (a:=l1.map Tok.b++[comma]) (b:=[]) (by rw[h];simp)
  simpa using this,by omega,fun t ht=>by
   have:=getElem?_lt ht;omega⟩
 have wc:isW l3 l1.length [44]=true:=by unfold isW;rw[htc];simp [tk,ts]
 -- the first list in the whole
 obtain⟨f1,k1,i1,n1,B1,o1,hi1,m1,l1'⟩:=r1.one;have st1:zMc l1 i1:=(zE9 l1').elim (fun h=>.inr (.inl h)) (fun h=>.inl h.symm);obtain⟨_,_,_,nn1,_,_,_⟩:=yU _ _ _ _ _ _ o1 (Nat.zero_le _);obtain⟨_,_,_,nm1,_,_,_⟩:=yU _ _ _ _ _ _ l1' hi1;have ts0:TSim [] [] []:=by simp [TSim]
 obtain⟨g1,B1',e1,s1⟩:=(zHC u1 (pre:=[]) f1).1 _ _ _ _ _ _ _ _ o1 (Nat.zero_le _) (Nat.zero_le _) st1 ts0;obtain⟨A1',s2,c1⟩:=(zHC u1 (pre:=[]) f1).2.2 _ _ _ _ _ _ _ _ _ l1' (Nat.zero_le _) hi1 (.inl rfl) s1;have a1len:A1'.length=A1.length:=by have:=s2.len;simpa using this
 have a1map:A1'.map Test.s=A1.map Test.s:=by
  have:=s2;simp only[TSim,List.nil_append,List.length_nil] at this;rw[this]
  conv=>rhs;rw[← List.map_id (A1.map Test.s)]
  refine List.map_congr_left fun x _=>?_
  simp [STst.sh]
 -- the second one
 obtain⟨f2,k2,i2,n2,B2,o2,hi2,m2,l2'⟩:=r2.one;have st2:zMc l2 i2:=(zE9 l2').elim (fun h=>.inr (.inl h)) (fun h=>.inl h.symm);obtain⟨_,_,_,nn2,_,_,_⟩:=yU _ _ _ _ _ _ o2 (Nat.zero_le _);obtain⟨_,_,_,nm2,_,_,_⟩:=yU _ _ _ _ _ _ l2' hi2;have ts1:TSim (A1'.map Test.s) [] A1':=by simp [TSim]
 obtain⟨g2,B2',e2,s3⟩:=(zHC u2 (pre:=A1'.map Test.s) f2).1 _ _ _ _ _ _ _ _ o2 (Nat.zero_le _) (Nat.zero_le _) st2 ts1;obtain⟨A2',s4,c2⟩:=(zHC u2 (pre:=A1'.map Test.s) f2).2.2 _ _ _ _ _ _ _ _ _ l2' (Nat.zero_le _) hi2 (.inl rfl) s3
 -- the end
 have endw:isW l3 l3.length [44]=false:=by
  cases hw:isW l3 l3.length [44] with
  |false=>rfl
  |true=>have:=yC hw;omega
 have hend:UX l3 1 (.list (K2.map (·+(A1'.map Test.s).length))) (l2.length+(l1.length+1)) m2 A2'=some (.oks (K2.map (·+(A1'.map Test.s).length)) l3.length m2 A2'):=by
  rw[show l2.length+(l1.length+1)=l3.length by omega,UX,endw];rfl
 obtain⟨g3,e3⟩:=c2 _ _ hend
 -- the whole,as it is
 cases f3 with
 |zero=>simp [UX] at h3
 |succ f3 =>
  rw[UX] at h3;have e1':UX l3 g1 .one 0 0 []=some (.ok k1 i1 n1 B1'):=by simpa using e1
  obtain⟨r,hr⟩:∃r,UX l3 f3 .one 0 0 []=some r:=by
   cases hh:UX l3 f3 .one 0 0 [] with
   |none=>rw[hh] at h3;cases h3
   |some r=>exact⟨r,rfl⟩
  have h5:=jH _ _ _ _ _ _ e1' (max g1 f3) (by omega);have h6:=jH _ _ _ _ _ _ hr (max g1 f3) (by omega);rw[h5] at h6;cases h6;rw[hr] at h3;dsimp only at h3
  -- behind the first list
  obtain⟨r3,hr3⟩:∃r3,UX l3 f3 (.list [k1]) i1 n1 B1'=some r3:=by
   cases hh:UX l3 f3 (.list [k1]) i1 n1 B1' with
   |none=>rw[hh] at h3;cases h3
   |some r=>exact⟨r,rfl⟩
  -- the list goes on behind the comma
  by_cases hsl:jT l3 (l1.length+1)=true
  ·exfalso;have hst:UX l3 1 (.list (K1.map (·+([]:List STst).length))) (l1.length+0) m1 A1'=some (.oks (K1.map (·+([]:List STst).length)) l1.length m1 A1'):=by
    rw[Nat.add_zero,UX,wc,hsl];rfl
   obtain⟨g,hg⟩:=c1 _ _ hst;have hg':UX l3 g (.list [k1]) i1 n1 B1'=some (.oks (K1.map (·+([]:List STst).length)) l1.length m1 A1'):=by simpa using hg
   have h7:=jH _ _ _ _ _ _ hg' (max g f3) (by omega);have h8:=jH _ _ _ _ _ _ hr3 (max g f3) (by omega);rw[h7] at h8;cases h8;rw[hr3] at h3;have:l1.length=l3.length:=by
    generalize K1.map (·+([]:List STst).length)=K at h3
    match K,h3 with
    |[],h=>simp only[Option.some.injEq,RU.ok.injEq] at h;omega
    |[a],h=>simp only[Option.some.injEq,RU.ok.injEq] at h;omega
    |a::b::c,h=>simp only[Option.some.injEq,RU.ok.injEq] at h;omega
   omega
  have e3':UX l3 (max g2 g3) (.list (K1++[k2+(A1'.map Test.s).length])) (i2+(l1.length+1)) n2 B2'=some (.oks (K1++K2.map (·+(A1'.map Test.s).length)) l3.length m2 A2'):=by
   have:=zNu K1 _ _ _ _ _ _ e3 (by have:=u2.2.1;omega);exact jH _ _ _ _ _ _ this _ (by omega)
  have e2':=jH _ _ _ _ _ _ e2 (max g2 g3) (by omega);have hn1:m1=0:=by omega
  have hn2:n2=0:=by omega
  have hst:UX l3 (max g2 g3+1) (.list K1) l1.length m1 A1'=some (.oks (K1++K2.map (·+(A1'.map Test.s).length)) l3.length m2 A2'):=by
   have hsl':jT l3 (l1.length+1)=false:=by simpa using hsl
   rw[UX,wc,hsl',if_pos (by rfl),hn1,show l1.length+1=0+(l1.length+1) by omega,e2'];exact e3'
  have hK:K1.map (·+([]:List STst).length)=K1:=by simp
  obtain⟨g,hg⟩:=c1 _ _ (by rw[hK];exact hst);have hg':UX l3 g (.list [k1]) i1 n1 B1'=some (.oks (K1++K2.map (·+(A1'.map Test.s).length)) l3.length m2 A2'):=by simpa using hg
  have h7:=jH _ _ _ _ _ _ hg' (max g f3) (by omega);have h8:=jH _ _ _ _ _ _ hr3 (max g f3) (by omega);rw[h7] at h8;cases h8;rw[hr3] at h3;have hne1:=r1.ne;have hne2:=r2.ne;have hres:T3=A2'++[yY 9 [] [] false false (K1++K2.map (·+(A1'.map Test.s).length)) (plW l3 0)]:=by
   have hKl:2≤(K1++K2.map (·+(A1'.map Test.s).length)).length:=by
    have a:=List.length_pos_iff.2 hne1;have b:=List.length_pos_iff.2 hne2;simp;omega
   generalize K1++K2.map (·+(A1'.map Test.s).length)=K at h3 hKl ⊢
   match K,h3,hKl with
   |[],_,h=>simp at h
   |[a],_,h=>simp at h
   |a::b::c,h,_=>cases h;rfl
  rw[hres];simp only[List.map_append,List.map_cons,List.map_nil,zHP];have:=s4;simp only[TSim,List.length_map] at this;rw[this,a1map,List.length_map,a1len]
  rfl
structure Ans where
 v:Val
 e:Int
def Ans.c(a:Ans):List Tree:=[.int .u8 a.v.k,.int .i64 a.v.n,.str a.v.s,.int .i64 a.e]
def AZero:Ans:=⟨VZ,0⟩
def getA(kl:List Ans)(i:Nat):Ans:=kl.getD i AZero
def zBb(op:Int):Option Int:=if op=2 then some 7 else if op=3 then some 9 else if op=4 then some 10 else if op=5 then some 11 else if op=6 then some 12 else none
def zDt(x:STst):List (Int×List SNode) :=
 if x.op=7 then [(if x.low then 11 else 12,x.a),(if x.high then 9 else 10,x.b)] else match zBb x.op with
  |some s=>[(s,x.a)]
  |none=>[]
def kidT(al:List Ans)(k:Int):Ans:=if k<0∨k ≥ al.length then AZero else getA al k.toNat
def kQ(al:List Ans)(ks:List Int):List Ans:=if ks=[] then [AZero] else ks.map (kidT al)
structure Sem where
 cmp:Int→List SNode→Ans
 all:Ans→Ans→Ans
 any:Ans→Ans→Ans
 not:Ans→Ans
def zJZ(S:Sem)(op:Int)(kl:List Ans):Ans :=
 if op=1 then ⟨⟨4,1,[]⟩,0⟩ else if op=8 then S.not (getA kl 0) else if op=9 then (kl.drop 1).foldl S.any (getA kl 0) else ⟨VZ,2⟩
def zFa(S:Sem)(x:STst)(al:List Ans):Ans :=
 match (zDt x).map fun p=>S.cmp p.1 p.2 with
 |[a]=>a
 |[a,b]=>S.all a b
 |_=>zJZ S x.op (kQ al x.kids)
def xZ(S:Sem)(ts:List STst):Nat→List Ans
 |0=>[]
 |i+1=>xZ S ts i++[match ts[i]? with
  |some x=>zFa S x (xZ S ts i)
  |none=>AZero]
def zDe(l:List Ans):Ans:=l.getLast?.getD ⟨VZ,2⟩
def zBa(S:Sem)(ts:List STst):Ans:=zDe (xZ S ts ts.length)
theorem zAo(S:Sem)(ts:List STst):∀i,(xZ S ts i).length=i
 |0=>rfl
 |i+1=>by simp [xZ,zAo S ts i]
theorem zGt(l:List Ans)(a:Ans):zDe (l++[a])=a:=by simp [zDe]
def WFT(B:List STst):Prop:=∀(i:Nat) x,B[i]?=some x→∀k ∈ x.kids,0≤k∧k<i
theorem WFT.snoc{B:List STst}{x:STst}(h:WFT B)(hx:∀k ∈ x.kids,0≤k∧k<B.length):WFT (B++[x]):=by
 intro i y hy;rcases Nat.lt_or_ge i B.length with hi|hi
 ·rw[List.getElem?_append_left hi] at hy;exact h i y hy
 rw[List.getElem?_append_right hi] at hy;cases hj:i - B.length with
 |zero =>
  rw[hj] at hy;simp only[List.getElem?_cons_zero,Option.some.injEq] at hy;subst hy;intro k hk;have:=hx k hk;omega
 |succ j=>rw[hj] at hy;simp at hy
theorem zNn(P al:List Ans)(k:Int)(h0:0≤k)(h:k<al.length):kidT (P++al) (k+P.length)=kidT al k:=by
 unfold kidT;rw[if_neg (by simp;omega),if_neg (by omega)];unfold getA;rw[show (k+P.length).toNat=P.length+k.toNat by omega,List.getD_eq_getElem?_getD,List.getD_eq_getElem?_getD,List.getElem?_append_right (by omega),Nat.add_sub_cancel_left]
theorem zTU(S:Sem)(x:STst)(P al:List Ans)(h:∀k ∈ x.kids,0≤k∧k<al.length):zFa S (x.sh P.length) (P++al)=zFa S x al:=by
 have hp:zDt (x.sh P.length)=zDt x:=rfl;have hk:kQ (P++al) (x.sh P.length).kids=kQ al x.kids:=by
  unfold kQ STst.sh;simp only[List.map_eq_nil_iff];split
  ·rfl
  rw[List.map_map];refine List.map_congr_left fun k hk=>?_
  obtain⟨h1,h2⟩:=h k hk;exact zNn P al k h1 h2
 unfold zFa;rw[hp,hk]
 rfl
theorem zD3(S:Sem)(A B:List STst):∀i,i≤A.length→xZ S (A++B) i=xZ S A i
 |0,_=>rfl
 |i+1,h=>by
  rw[xZ,xZ,zD3 S A B i (by omega),List.getElem?_append_left (by omega)]
theorem zLW(S:Sem)(A B:List STst)(hB:WFT B):∀j,j≤B.length→xZ S (A++B.map (STst.sh A.length)) (A.length+j)=xZ S A A.length++xZ S B j
 |0,_=>by rw[Nat.add_zero,zD3 S A _ _ (Nat.le_refl _)];simp [xZ]
 |j+1,h=>by
  have hj:j<B.length:=by omega
  rw[show A.length+(j+1)=(A.length+j)+1 by omega,xZ,zLW S A B hB j (by omega),List.getElem?_append_right (by omega),Nat.add_sub_cancel_left,List.getElem?_map,
   List.getElem?_eq_getElem hj,xZ,List.getElem?_eq_getElem hj]
  dsimp only[Option.map_some];have hl:(xZ S A A.length).length=A.length:=zAo S A _;have:=zTU S B[j] (xZ S A A.length) (xZ S B j) (by rw[zAo];exact hB j _ (List.getElem?_eq_getElem hj));rw[hl] at this;rw[this,List.append_assoc]
def VT:Val:=⟨4,1,[]⟩
def VF:Val:=⟨4,0,[]⟩
def VB(v:Val):Prop:=(-9223372036854775808≤v.n∧v.n<9223372036854775808)∧v.s.length<4294967281
theorem zKv:VB VT:=⟨⟨by decide,by decide⟩,by decide⟩
theorem zNa:VB VF:=⟨⟨by decide,by decide⟩,by decide⟩
theorem jV:VB VZ:=⟨⟨by decide,by decide⟩,by decide⟩
def TB(a:Ans):Prop:=VB a.v∧(a.e≠0∨a.v=VT∨a.v=VF∨a.v=VZ)
def zAR(a:Ans):Prop:=a.e=0∧a.v=VT
def BA(a b:Ans):Ans :=
 if a.e≠0∨a.v=VT then a else if b.e≠0 then b else if b.v=VT then ⟨VT,0⟩ else if a.v=VF∧b.v=VF then ⟨VF,0⟩ else ⟨VZ,0⟩
theorem zUf{a b:Ans}(ha:TB a)(hb:TB b):TB (BA a b):=by
 unfold BA;split
 ·exact ha
 split
 ·exact hb
 split
 ·exact⟨zKv,.inr (.inl rfl)⟩
 split
 ·exact⟨zNa,.inr (.inr (.inl rfl))⟩
 exact⟨jV,.inr (.inr (.inr rfl))⟩
theorem zET:∀(l:List Ans) {a:Ans},TB a→(∀b ∈ l,TB b)→TB (l.foldl BA a)
 |[],_,ha,_=>ha
 |b::l,_,ha,h=>zET l (zUf ha (h b (.head _))) fun c hc=>h c (List.mem_cons_of_mem _ hc)
theorem zEp{S:Sem}(hS:∀a b,TB a→TB b→S.any a b=BA a b):∀(l:List Ans) {a:Ans},TB a→(∀b ∈ l,TB b)→l.foldl S.any a=l.foldl BA a
 |[],_,_,_=>rfl
 |b::l,a,ha,h=>by
  have hb:=h b (.head _);rw[List.foldl_cons,List.foldl_cons,hS a b ha hb];exact zEp hS l (zUf ha hb) fun c hc=>h c (List.mem_cons_of_mem _ hc)
theorem zLv{a:Ans}(h:a.e≠0∨a.v=VT):∀l:List Ans,l.foldl BA a=a
 |[]=>rfl
 |b::l=>by rw[List.foldl_cons,show BA a b=a by unfold BA;rw[if_pos h]];exact zLv h l
def Neut(a:Ans):Prop:=a.e=0∧(a.v=VF∨a.v=VZ)
theorem Neut.ne{a:Ans}(h:Neut a):¬ (a.e≠0∨a.v=VT):=by
 rintro(h1|h1)
 ·exact h1 h.1
 rcases h.2 with h2|h2<;>rw[h2] at h1<;>cases h1
theorem zK1{a b:Ans}(ha:Neut a)(hb:Neut b):Neut (BA a b):=by
 unfold BA;rw[if_neg ha.ne,if_neg (fun h=>hb.ne (.inl h)),if_neg (fun h=>hb.ne (.inr h))];split
 ·exact⟨rfl,.inl rfl⟩
 exact⟨rfl,.inr rfl⟩
theorem zKx{a b:Ans}(ha:Neut a)(h:b.e≠0∨b.v=VT):BA a b=b:=by
 unfold BA;rw[if_neg ha.ne];split
 ·rfl
 rename_i h0;have hv:=h.resolve_left h0;rw[if_pos hv];cases b with
 |mk v e =>
       simp only at hv h0;subst hv;have:e=0:=by simpa using h0
       subst this;rfl
theorem zKI{b:Ans}(h:TB b):(b.e≠0∨b.v=VT)∨Neut b:=by
 by_cases h0:b.e=0
 ·rcases h.2 with h|h|h|h
  ·exact absurd h0 h
  ·exact .inl (.inr h)
  ·exact .inr ⟨h0,.inl h⟩
  exact .inr ⟨h0,.inr h⟩
 exact .inl (.inl h0)
theorem zLZ:∀(l:List Ans) {x y:Ans},Neut x→Neut y→(∀b ∈ l,TB b)→(zAR (l.foldl BA x)↔zAR (l.foldl BA y))
 |[],x,y,hx,hy,_=>by
  have n:∀ {z:Ans},Neut z→¬ zAR z:=fun hz h=>hz.ne (.inr h.2)
  exact⟨fun h=>absurd h (n hx),fun h=>absurd h (n hy)⟩
 |b::l,x,y,hx,hy,h=>by
  rw[List.foldl_cons,List.foldl_cons];rcases zKI (h b (.head _)) with hb|hb
  ·rw[zKx hx hb,zKx hy hb]
  exact zLZ l (zK1 hx hb) (zK1 hy hb) fun c hc=>h c (List.mem_cons_of_mem _ hc)
theorem zS5{x b:Ans}{l:List Ans}(hx:TB x)(hb:TB b)(hl:∀c ∈ l,TB c):zAR ((b::l).foldl BA x)↔zAR x∨(x.e=0∧zAR (l.foldl BA b)):=by
 rcases zKI hx with h|h
 ·rw[zLv h];refine⟨.inl,fun h'=>h'.elim id fun h''=>?_⟩;exact⟨h''.1,h.resolve_left (fun h3=>h3 h''.1)⟩
 have n:¬ zAR x:=fun h'=>h.ne (.inr h'.2)
 have key:zAR ((b::l).foldl BA x)↔zAR (l.foldl BA b):=by
  rw[List.foldl_cons];rcases zKI hb with h2|h2
  ·rw[zKx h h2]
  exact zLZ l (zK1 h h2) h2 hl
 rw[key];exact⟨fun h'=>.inr ⟨h.1,h'⟩,fun h'=>h'.elim (fun h3=>absurd h3 n) (·.2)⟩
theorem zLA{al:List Ans}{K:List Nat}(hne:K≠[]):kQ al (zD8 K).kids=K.map fun k:Nat=>kidT al (k:Int):=by
 unfold kQ zD8 xU;rw[if_neg (by simpa using hne),List.map_map];rfl
theorem zLV {S:Sem} {A:List STst} {K:List Nat} (hA:A≠[]) (hlast:∀k,K=[k]→k+1=A.length) (hne:K≠[]) :
  ∃a r,K.map (fun k:Nat=>kidT (xZ S A A.length) (k:Int))=a::r∧zBa S (zUA A K)=r.foldl S.any a:=by
 match K,hne,hlast with
 |[k],_,hlast =>
  have hk:=hlast k rfl;refine⟨kidT (xZ S A A.length) (k:Int),[],rfl,?_⟩
  show zDe (xZ S A A.length)=_
  have hl:=zAo S A A.length;unfold kidT zDe getA;rw[if_neg (by omega),List.getLast?_eq_getElem?,List.getD_eq_getElem?_getD,show (xZ S A A.length).length - 1=k by omega];have:k<(xZ S A A.length).length:=by omega
  rw[show ((k:Int)).toNat=k by omega,List.getElem?_eq_getElem this]
  rfl
 |k::j::K,hne,_ =>
  refine⟨_,_,rfl,?_⟩
  show zDe (xZ S (A++[zD8 (k::j::K)]) (A++[zD8 (k::j::K)]).length)=_
  rw[List.length_append,List.length_singleton,xZ,zGt,zD3 S A _ _ (Nat.le_refl _),List.getElem?_append_right (Nat.le_refl _),Nat.sub_self];dsimp only[List.getElem?_cons_zero]
  show zJZ S 9 (kQ _ (zD8 (k::j::K)).kids)=_
  rw[zLA (by simp)]
  rfl
def WFL(T:List Test):Prop:=WFT (T.map Test.s)
theorem WFL.snoc{T:List Test}{op:Int}{a b:List Node}{low high:Bool}{ks:List Nat}{p:Int×Int}(h:WFL T)(hk:∀k ∈ ks,k<T.length):WFL (T++[yY op a b low high ks p]):=by
 unfold WFL;rw[List.map_append,List.map_cons,List.map_nil,zHP];refine WFT.snoc h fun k hk'=>?_
 simp only[xU,List.mem_map] at hk';obtain⟨j,hj,rfl⟩:=hk';have:=hk j hj;simp only[List.length_map];omega
theorem zH2{l:List Tok}{op:Int}{p:Int×Int}{i n k i1 n1:Nat}{T T1:List Test}(h:cmpX l op p i n T=.ok k i1 n1 T1):(WFL T→WFL T1)∧k+1=T1.length:=by
 unfold cmpX at h;split at h
 ·cases h;exact⟨fun hT=>hT.snoc (by simp),by simp⟩
 cases h
theorem zKt{l:List Tok}:∀(f:Nat) (c:UC) (i n:Nat) (T:List Test) (r:RU),UX l f c i n T=some r→i≤l.length→(∀k ∈ c.kl,k<T.length)→WFL T →
  match r with
  |.ok k i' n' T'=>WFL T'∧(match c with|.one=>k+1=T'.length|_=>True)
  |.oks K i' n' T'=>WFL T'∧(K.length=c.kl.length→T'=T)
  |.pan _ _=>True
 |0,c,i,n,T,r,h,_,_,_=>by simp [UX] at h
 |f+1,.one,i,n,T,r,h,hi,_,hT=>by
  have ih:=zKt (l:=l) f;rw[UX] at h;split at h
  ·cases h;exact⟨hT.snoc (by simp),by simp⟩
  split at h
  ·rename_i hn;simp only[notX,Bool.and_eq_true] at hn;have:=yC hn.2;split at h
   ·cases h;trivial
   cases hh:UX l f .tests (i+2) (n+1) T with
   |none=>rw[hh] at h;cases h
   |some x =>
    have hk:=yU _ _ _ _ _ _ hh (by omega);have hw:=ih _ _ _ _ _ hh (by omega) (by simp [UC.kl]) hT;rw[hh] at h;cases x with
    |ok k i' n' T' =>
     dsimp only at h;split at h
     ·cases h;refine⟨hw.1.snoc (fun j hj=>?_),by simp⟩;simp only[List.mem_singleton] at hj;subst hj;exact hk.2.2.2.2.2.1
     cases h;trivial
    |oks ks i' n' T'=>exact absurd hk.1 id
    |pan e i'=>cases h;trivial
  split at h
  ·have h:=Option.some.inj h;unfold rngX at h;split at h
   ·split at h
    ·cases h;exact⟨hT.snoc (by simp),by simp⟩
    cases h;trivial
   cases h;trivial
  split at h
  ·have h:=Option.some.inj h;cases r with
   |ok k i' n' T'=>exact⟨(zH2 h).1 hT,(zH2 h).2⟩
   |oks ks i' n' T'=>unfold cmpX at h;split at h<;>cases h
   |pan e i'=>trivial
  have h:=Option.some.inj h;cases r with
  |ok k i' n' T'=>exact⟨(zH2 h).1 hT,(zH2 h).2⟩
  |oks ks i' n' T'=>unfold cmpX at h;split at h<;>cases h
  |pan e i'=>trivial
 |f+1,.list ks,i,n,T,r,h,hi,hks,hT=>by
  have ih:=zKt (l:=l) f;rw[UX] at h;split at h
  ·rename_i hc;simp only[Bool.and_eq_true] at hc;have:=yC hc.1;cases hh:UX l f .one (i+1) n T with
   |none=>rw[hh] at h;cases h
   |some x =>
    have hk:=yU _ _ _ _ _ _ hh (by omega);have hw:=ih _ _ _ _ _ hh (by omega) (by simp [UC.kl]) hT;rw[hh] at h;cases x with
    |ok k i' n' T' =>
     dsimp only at h;obtain⟨_,q1,q2,q3,q4,q5,q6⟩:=hk;have hks':∀j ∈ ks++[k],j<T'.length:=fun j hj=>by
      rcases List.mem_append.1 hj with hj|hj
      ·have:=hks j hj;omega
      rw[List.mem_singleton.1 hj];exact q5
     have h2:=ih _ _ _ _ _ h q2 hks' hw.1;have hk2:=yU _ _ _ _ _ _ h q2;cases r with
     |ok k i' n' T'=>exact absurd hk2.1 id
     |oks K i' n' T' =>
      refine⟨h2.1,fun hl=>?_⟩;obtain⟨_,_,_,_,_,_,m,hm,_⟩:=hk2;rw[hm] at hl;simp [UC.kl] at hl
     |pan e i'=>trivial
    |oks ks i' n' T'=>exact absurd hk.1 id
    |pan e i'=>cases h;trivial
  cases h;exact⟨hT,fun _=>rfl⟩
 |f+1,.tests,i,n,T,r,h,hi,_,hT=>by
  have ih:=zKt (l:=l) f;rw[UX] at h;cases hh:UX l f .one i n T with
  |none=>rw[hh] at h;cases h
  |some x =>
   have hk:=yU _ _ _ _ _ _ hh hi;have hw:=ih _ _ _ _ _ hh hi (by simp [UC.kl]) hT;rw[hh] at h;cases x with
   |ok k i' n' T' =>
    dsimp only at h;obtain⟨_,q1,q2,q3,q4,q5,q6⟩:=hk;cases hl:UX l f (.list [k]) i' n' T' with
    |none=>rw[hl] at h;cases h
    |some y =>
     have hk2:=yU _ _ _ _ _ _ hl q2;have hw2:=ih _ _ _ _ _ hl q2 (by simp only[UC.kl,List.mem_singleton];rintro _ rfl;exact q5) hw.1;rw[hl] at h;cases y with
     |ok k i' n' T'=>exact absurd hk2.1 id
     |pan e i'=>cases h;trivial
     |oks K i2 n2 T2 =>
      obtain⟨_,_,_,_,_,w5,m,w6,w7⟩:=hk2;have hlt:∀j ∈ K,j<T2.length:=fun j hj=>by
       rw[w6] at hj;simp only[UC.kl,List.cons_append,List.nil_append,List.mem_cons] at hj;rcases hj with rfl|hj
       ·omega
       exact w7 j hj
      match K,h,hlt with
      |[],h,_=>cases h;exact⟨hw2.1.snoc (by simp),trivial⟩
      |[a],h,_=>cases h;exact⟨hw2.1,trivial⟩
      |a::b::c,h,hlt=>cases h;exact⟨hw2.1.snoc hlt,trivial⟩
   |oks ks i' n' T'=>exact absurd hk.1 id
   |pan e i'=>cases h;trivial
theorem Reads.wf{l:List Tok}{T A:List Test}{K:List Nat}(h:Reads l T A K):WFL A∧∀k,K=[k]→k+1=A.length:=by
 obtain⟨f,k,i,n,T0,h1,h2,n',h3⟩:=h.one;have hk:=yU _ _ _ _ _ _ h1 (Nat.zero_le _);have w1:=zKt _ _ _ _ _ _ h1 (Nat.zero_le _) (by simp [UC.kl]) (by simp [WFL,WFT]);have w2:=zKt _ _ _ _ _ _ h3 h2 (by simp only[UC.kl,List.mem_singleton];rintro _ rfl;exact hk.2.2.2.2.2.1) w1.1;have k2:=yU _ _ _ _ _ _ h3 h2;refine⟨w2.1,fun j hj=>?_⟩;obtain⟨_,_,_,_,_,_,m,w6,_⟩:=k2;rw[hj] at w6 w2;simp only[UC.kl,List.cons_append,List.nil_append,List.cons.injEq] at w6;rw[w2.2 (by simp [UC.kl]),w6.1];exact w1.2
structure SemOK (S:Sem):Prop where
 cmp:∀op a,(op=7∨op=8∨op=9∨op=10∨op=11∨op=12)→TB (S.cmp op a)
 all:∀a b,TB a→TB b→TB (S.all a b)
 any:∀a b,TB a→TB b→S.any a b=BA a b
 not:∀a,TB a→TB (S.not a)
theorem zBh:TB AZero:=⟨jV,.inr (.inr (.inr rfl))⟩
theorem zKM{al:List Ans}(h:∀a ∈ al,TB a)(k:Int):TB (kidT al k):=by
 unfold kidT;split
 ·exact zBh
 unfold getA;rw[List.getD_eq_getElem?_getD];cases hi:al[k.toNat]? with
 |none=>exact zBh
 |some a=>exact h a (List.mem_of_getElem? hi)
theorem zTh{al:List Ans}(h:∀a ∈ al,TB a)(ks:List Int):∀a ∈ kQ al ks,TB a:=by
 unfold kQ;split
 ·intro a ha;rw[List.mem_singleton.1 ha];exact zBh
 intro a ha;obtain⟨k,_,rfl⟩:=List.mem_map.1 ha;exact zKM h k
theorem zKW{al:List Ans}(h:∀a ∈ al,TB a)(i:Nat):TB (getA al i):=by
 unfold getA;rw[List.getD_eq_getElem?_getD];cases hi:al[i]? with
 |none=>exact zBh
 |some a=>exact h a (List.mem_of_getElem? hi)
theorem zPx{op s:Int}(h:zBb op=some s):s=7∨s=8∨s=9∨s=10∨s=11∨s=12:=by
 unfold zBb at h;split at h
 ·cases h;simp
 split at h
 ·cases h;simp
 split at h
 ·cases h;simp
 split at h
 ·cases h;simp
 split at h
 ·cases h;simp
 cases h
theorem zTT{S:Sem}(hS:SemOK S)(x:STst){al:List Ans}(h:∀a ∈ al,TB a):TB (zFa S x al):=by
 have rest:TB (zJZ S x.op (kQ al x.kids)):=by
  have hk:=zTh h x.kids;unfold zJZ;split
  ·exact⟨zKv,.inr (.inl rfl)⟩
  split
  ·exact hS.not _ (zKW hk 0)
  split
  ·have hd:∀b ∈ (kQ al x.kids).drop 1,TB b:=fun b hb=>hk b (List.mem_of_mem_drop hb)
   rw[zEp hS.any _ (zKW hk 0) hd];exact zET _ (zKW hk 0) hd
  exact⟨jV,.inl (by simp)⟩
 unfold zFa zDt;split
 ·rename_i a ha;split at ha
  ·simp at ha
  split at ha
  ·rename_i s hs;simp only[List.map_cons,List.map_nil,List.cons.injEq,and_true] at ha;rw[← ha];exact hS.cmp _ _ (zPx hs)
  simp at ha
 ·rename_i a b ha;split at ha
  ·simp only[List.map_cons,List.map_nil,List.cons.injEq,and_true] at ha;rw[← ha.1,← ha.2];refine hS.all _ _ (hS.cmp _ _ ?_) (hS.cmp _ _ ?_)
   ·cases x.low<;>simp
   cases x.high<;>simp
  split at ha<;>simp at ha
 exact rest
theorem zEm{S:Sem}(hS:SemOK S)(ts:List STst):∀i,∀a ∈ xZ S ts i,TB a
 |0,a,h=>by simp [xZ] at h
 |i+1,a,h=>by
  rw[xZ] at h;rcases List.mem_append.1 h with h|h
  ·exact zEm hS ts i a h
  rw[List.mem_singleton.1 h];split
  ·exact zTT hS _ (zEm hS ts i)
  exact zBh
theorem zQr(P al:List Ans)(k:Nat)(h:k<P.length):kidT (P++al) (k:Int)=kidT P (k:Int):=by
 unfold kidT getA;rw[if_neg (by simp;omega),if_neg (by omega),List.getD_eq_getElem?_getD,List.getD_eq_getElem?_getD,List.getElem?_append_left (by omega)]
theorem zSA {S:Sem} (hS:SemOK S) {l1 l2 l3:List Tok} (h:l3.map Tok.b=l1.map Tok.b++comma::l2.map Tok.b)
  (h1:(xW l1 0).2=(l1.length,0)) (h2:(xW l2 0).2=(l2.length,0)) (h3:(xW l3 0).2=(l3.length,0)) :
  zAR (zBa S ((xW l3 0).1.map Test.s))↔zAR (zBa S ((xW l1 0).1.map Test.s))∨((zBa S ((xW l1 0).1.map Test.s)).e=0∧zAR (zBa S ((xW l2 0).1.map Test.s))):=by
 have get:∀ {l:List Tok},(xW l 0).2=(l.length,0)→∃f k n,UX l f .tests 0 0 []=some (.ok k l.length n (xW l 0).1):=fun {l} hl=>by
  obtain⟨f,k,n,hf,_⟩:=zHr (l:=l) (Nat.zero_le _) (by rw[hl]);rw[hl] at hf;exact⟨f,k,n,hf⟩
 obtain⟨f1,k1,n1,u1⟩:=get h1;obtain⟨f2,k2,n2,u2⟩:=get h2;obtain⟨f3,k3,n3,u3⟩:=get h3;obtain⟨A1,K1,r1⟩:=zMT u1;obtain⟨A2,K2,r2⟩:=zMT u2;have e3:=zPV h r1 r2 u3;obtain⟨w1,q1⟩:=r1.wf;obtain⟨w2,q2⟩:=r2.wf;have ne:∀ {A:List Test} {K:List Nat},K≠[]→(∀k ∈ K,k<A.length)→A.map Test.s≠[]:=fun {A K} hK hl h0=>by
  cases K with
  |nil=>exact hK rfl
  |cons k K =>
   have:=hl k (.head _);rw[List.map_eq_nil_iff] at h0;subst h0;simp at this
 obtain⟨a1,s1,m1,t1⟩:=zLV (S:=S) (A:=A1.map Test.s) (ne r1.ne r1.lt) (fun k hk=>by rw[List.length_map];exact q1 k hk) r1.ne;obtain⟨a2,s2,m2,t2⟩:=zLV (S:=S) (A:=A2.map Test.s) (ne r2.ne r2.lt) (fun k hk=>by rw[List.length_map];exact q2 k hk) r2.ne;rw[r1.all,r2.all,t1,t2,e3]
 -- the whole's answer
 have hP:=zAo S (A1.map Test.s) (A1.map Test.s).length;have app:=zLW S (A1.map Test.s) (A2.map Test.s) w2 (A2.map Test.s).length (Nat.le_refl _);have big:(A1.map Test.s++(A2.map Test.s).map (STst.sh A1.length)).length=(A1.map Test.s).length+(A2.map Test.s).length:=by simp
 have app':xZ S (A1.map Test.s++(A2.map Test.s).map (STst.sh A1.length)) (A1.map Test.s++(A2.map Test.s).map (STst.sh A1.length)).length=xZ S (A1.map Test.s) (A1.map Test.s).length++xZ S (A2.map Test.s) (A2.map Test.s).length:=by
  rw[big];have e:STst.sh A1.length=STst.sh (A1.map Test.s).length:=by rw[List.length_map]
  rw[e];exact app
 have whole:zBa S ((A1.map Test.s++(A2.map Test.s).map (STst.sh A1.length))++[zD8 (K1++K2.map (·+A1.length))])=(s1++a2::s2).foldl S.any a1:=by
  unfold zBa;rw[List.length_append,List.length_singleton,xZ,zGt,zD3 S _ _ _ (Nat.le_refl _),List.getElem?_append_right (Nat.le_refl _),Nat.sub_self];dsimp only[List.getElem?_cons_zero]
  show zJZ S 9 (kQ _ (zD8 (K1++K2.map (·+A1.length))).kids)=_
  rw[zLA (by simpa using fun h=>absurd h r1.ne),app',List.map_append];have e1:(K1.map fun k:Nat=>kidT (xZ S (A1.map Test.s) (A1.map Test.s).length++xZ S (A2.map Test.s) (A2.map Test.s).length) (k:Int))=a1::s1:=by
   rw[← m1];refine List.map_congr_left fun k hk=>?_
   exact zQr _ _ k (by rw[hP,List.length_map];exact r1.lt k hk)
  have e2:((K2.map (·+A1.length)).map fun k:Nat=>kidT (xZ S (A1.map Test.s) (A1.map Test.s).length++xZ S (A2.map Test.s) (A2.map Test.s).length) (k:Int))=a2::s2:=by
   rw[← m2,List.map_map];refine List.map_congr_left fun k hk=>?_
   have:=zNn (xZ S (A1.map Test.s) (A1.map Test.s).length) (xZ S (A2.map Test.s) (A2.map Test.s).length) (k:Int) (by omega) (by rw[zAo,List.length_map];have:=r2.lt k hk;omega);rw[hP,List.length_map] at this;rw[← this];simp [Function.comp]
  rw[e1,e2]
  rfl
 have tb1:∀x ∈ a1::s1,TB x:=fun x hx=>by
  rw[← m1] at hx;obtain⟨k,_,rfl⟩:=List.mem_map.1 hx;exact zKM (zEm hS _ _) _
 have tb2:∀x ∈ a2::s2,TB x:=fun x hx=>by
  rw[← m2] at hx;obtain⟨k,_,rfl⟩:=List.mem_map.1 hx;exact zKM (zEm hS _ _) _
 have ta1:=tb1 a1 (.head _);have ta2:=tb2 a2 (.head _);have ts1:∀x ∈ s1,TB x:=fun x hx=>tb1 x (List.mem_cons_of_mem _ hx)
 have ts2:∀x ∈ s2,TB x:=fun x hx=>tb2 x (List.mem_cons_of_mem _ hx)
 rw[whole,List.foldl_append,zEp hS.any s1 ta1 ts1,zEp hS.any (a2::s2) (zET s1 ta1 ts1) tb2,zEp hS.any s2 ta2 ts2];exact zS5 (zET s1 ta1 ts1) ta2 ts2
def sgn(w:List Nat):BTok:=(7,w,VZ)
variable (vp:List Nat→Val×Int)
def andL{α:Type}(a b:Option (List α)):Option (List α) :=
 match a with
 |some x=>(match b with
  |some y=>some (x++y)
  |none=>none)
 |none=>none
theorem zUd(s r:List Nat):lexB vp (s++10::r)=andL (lexB vp s) (lexB vp r):=by
 rw[zHT];cases lexB vp s<;>cases lexB vp r<;>rfl
theorem zVP(r:List Nat):lexB vp (32::r)=lexB vp r:=by rw[lexB,if_pos (.inr rfl)]
theorem zTi{c:Nat}{r:List Nat}(h1:c ∈ signs1)(h2:(c::r).take 2 ∉ signs2):lexB vp (c::r)=andL (some [sgn [c]]) (lexB vp r):=by
 have hw:xO vp (c::r)=((7,[c],VZ),1,0):=by
  simp only[signs1,List.mem_cons,List.not_mem_nil,or_false] at h1;have key:∀c,wN c=false→yQ c=false→c≠34→c≠63→c≠35→c ∈ signs1→(c::r).take 2 ∉ signs2→xO vp (c::r)=((7,[c],VZ),1,0):=by
   intro c a1 a2 a3 a4 a5 a6 a7;unfold xO;dsimp only;have e:nth0 (c::r) 0=c:=rfl;rw[e,if_neg (by rw[a1];simp),if_neg (by rw[a2];simp),if_neg a3,if_neg (fun h=>a4 h.1),if_neg a4,if_neg (fun h=>a5 h.1),if_neg a7,if_pos a6]
  rcases h1 with rfl|rfl|rfl|rfl|rfl|rfl|rfl|rfl|rfl|rfl|rfl|rfl|rfl<;>exact key _ (by decide) (by decide) (by decide) (by decide) (by decide) (by decide) h2
 have hc:c≠10∧c≠32∧c≠59:=by simp [signs1] at h1;omega
 rw[lexB,if_neg (by omega),if_neg (by omega),hw];dsimp only;rw[if_pos rfl,Nat.sub_self,List.drop_zero];cases lexB vp r<;>rfl
theorem no2{c:Nat}{r:List Nat}(h:c≠60∧c≠62∧c≠46):(c::r).take 2 ∉ signs2:=by
 cases r with
 |nil=>simp [signs2]
 |cons d r=>simp [signs2];omega
theorem zSn{s m:List Nat}{c:List BTok}{a b:List BTok}(h1:lexB vp s=some a)(h2:lexB vp m=some b)(h:lexB vp (s++[10,44,32]++m)=some c):c=a++comma::b:=by
 rw[List.append_assoc,show ([10,44,32]++m:List Nat)=10::44::32::m from rfl,zUd,zTi vp (by decide) (no2 (by decide)),zVP,h1,h2] at h;exact(Option.some.inj h).symm
theorem zTV:lexB vp []=some []:=by rw[lexB]
theorem zDY{vp:List Nat→Val×Int}{s:List Nat}{i:Nat}{c:Nat}(h:s[i]?=some c)(hc:c=10∨c=32):lexB vp (s.drop i)=lexB vp (s.drop (i+1)):=by
 have hi:=getElem?_lt h;rw[List.getElem?_eq_getElem hi] at h;rw[List.drop_eq_getElem_cons hi,lexB,if_pos (by cases h;exact hc)]
theorem zI3{p:Nat→Bool}{s:List Nat}{i c:Nat}(h:s[i]?=some c)(hp:p c=true):cntW p (s.drop i)=cntW p (s.drop (i+1))+1:=by
 have hi:=getElem?_lt h;rw[List.getElem?_eq_getElem hi] at h;cases h;rw[List.drop_eq_getElem_cons hi,cntW,if_pos hp]
theorem zG3{vp:List Nat→Val×Int}{s:List Nat}{i:Nat}(h:s[i]?=some 59):lexB vp (s.drop i)=lexB vp (s.drop (i+cntW (fun c=>c != 10) (s.drop i))):=by
 rw[zI3 h (by decide)];have hi:=getElem?_lt h;rw[List.getElem?_eq_getElem hi] at h;have h':=Option.some.inj h;rw[List.drop_eq_getElem_cons hi,h',lexB,if_neg (by decide),if_pos rfl,List.drop_drop]
 congr 2
 omega
theorem zLl {vp:List Nat→Val×Int} {s:List Nat} {i c:Nat} (h:s[i]?=some c) (h1:c≠10) (h2:c≠32) (h3:c≠59) (hw:(xO vp (s.drop i)).2.2=0) (hn:1≤(xO vp (s.drop i)).2.1) :
  lexB vp (s.drop i)=andL (some [(xO vp (s.drop i)).1]) (lexB vp (s.drop (i+(xO vp (s.drop i)).2.1))):=by
 have hi:=getElem?_lt h;rw[List.getElem?_eq_getElem hi] at h;have h':=Option.some.inj h;rw[List.drop_eq_getElem_cons hi,h'] at hw hn ⊢;rw[lexB,if_neg (by omega),if_neg h3,if_pos hw,List.drop_drop];rw[show i+1+((xO vp (c::s.drop (i+1))).2.1 - 1)=i+(xO vp (c::s.drop (i+1))).2.1 by omega];cases lexB vp (s.drop (i+(xO vp (c::s.drop (i+1))).2.1))<;>rfl
theorem zMZ{vp:List Nat→Val×Int}{s:List Nat}{i c:Nat}(h:s[i]?=some c)(h1:c≠10)(h2:c≠32)(h3:c≠59)(hw:(xO vp (s.drop i)).2.2≠0):lexB vp (s.drop i)=none:=by
 have hi:=getElem?_lt h;rw[List.getElem?_eq_getElem hi] at h;have h':=Option.some.inj h;rw[List.drop_eq_getElem_cons hi,h'] at hw ⊢;rw[lexB,if_neg (by omega),if_neg h3,if_neg hw]
def NoW:BTok×Nat×Int:=((0,[],VZ),0,4)
def zJ6(vp:List Nat→Val×Int)(s:List Nat):BTok×Nat×Int :=
 if nth0 s (strN false (s.drop 1)+1)=34∧(vp (s.take (strN false (s.drop 1)+2))).2=0 then
  ((5,(s.drop 1).take (strN false (s.drop 1)),(vp (s.take (strN false (s.drop 1)+2))).1),strN false (s.drop 1)+2,0) else NoW
def numX(vp:List Nat→Val×Int)(s:List Nat):BTok×Nat×Int :=
 ((4,s.take (numN s),(vp (s.take (numN s))).1),numN s,if (vp (s.take (numN s))).2=0∨(vp (s.take (numN s))).2=9 then (vp (s.take (numN s))).2 else 4)
def sgnX(s:List Nat):BTok×Nat×Int :=
 if s.take 2 ∈ signs2 then ((7,s.take 2,VZ),2,0)
 else if nth0 s 0 ∈ signs1 then ((7,[nth0 s 0],VZ),1,0)
 else NoW
def ownX(s:List Nat):List Nat:=if wN (nth0 s 1) then (s.drop 1).take (cntW xF (s.drop 1)) else []
def errL(s:List Nat):Int:=if 12<s.length then 4 else 0
def jC(vp:List Nat→Val×Int)(s:List Nat):BTok×Nat×Int :=
 if wN (nth0 s 0) then ((1,s.take (cntW xF s),VZ),cntW xF s,errL (s.take (cntW xF s)))
 else if yQ (nth0 s 0) then numX vp s
 else if nth0 s 0=34 then zJ6 vp s
 else if nth0 s 0=63∧wN (nth0 s 1)=true then ((2,ownX s,VZ),1+(ownX s).length,errL (ownX s))
 else if nth0 s 0=63 then ((3,[],VZ),1,0)
 else if nth0 s 0=35∧wN (nth0 s 1)=true then ((6,ownX s,VSym (ownX s)),1+(ownX s).length,errL (ownX s))
 else sgnX s
theorem zMu(vp:List Nat→Val×Int)(s:List Nat):(jC vp s).2.2=(xO vp s).2.2∧((xO vp s).2.2=0→jC vp s=xO vp s):=by
 unfold jC xO;dsimp only;split
 ·exact⟨rfl,fun _=>rfl⟩
 split
 ·exact⟨rfl,fun _=>rfl⟩
 split
 ·unfold zJ6
  by_cases h1:nth0 s (strN false (s.drop 1)+1)=34
  ·by_cases h2:(vp (s.take (strN false (s.drop 1)+2))).2=0
   ·rw[if_pos ⟨h1,h2⟩,if_pos h1,if_pos h2];exact⟨rfl,fun _=>rfl⟩
   rw[if_neg (fun h=>h2 h.2),if_pos h1,if_neg h2];exact⟨rfl,fun h=>by cases h⟩
  rw[if_neg (fun h=>h1 h.1),if_neg h1];exact⟨rfl,fun h=>by cases h⟩
 by_cases h3:nth0 s 0=63∧wN (nth0 s 1)=true
 ·have e:ownX s=(s.drop 1).take (cntW xF (s.drop 1)):=by unfold ownX;rw[if_pos h3.2]
  rw[if_pos h3,if_pos h3,e];exact⟨rfl,fun _=>rfl⟩
 rw[if_neg h3,if_neg h3];split
 ·exact⟨rfl,fun _=>rfl⟩
 by_cases h4:nth0 s 0=35∧wN (nth0 s 1)=true
 ·have e:ownX s=(s.drop 1).take (cntW xF (s.drop 1)):=by unfold ownX;rw[if_pos h4.2]
  rw[if_pos h4,if_pos h4,e];exact⟨rfl,fun _=>rfl⟩
 rw[if_neg h4,if_neg h4];unfold sgnX NoW;exact⟨rfl,fun _=>rfl⟩
theorem zLN(vp:List Nat→Val×Int)(c:Nat)(r:List Nat)(h:(xO vp (c::r)).2.2=0):1≤(xO vp (c::r)).2.1:=by
 have e0:nth0 (c::r) 0=c:=rfl;unfold xO at h ⊢;rw[e0] at h ⊢;dsimp only at h ⊢;split
 ·rename_i h1;have:xF c=true:=by simp [xF,h1]
  dsimp only;rw[cntW,if_pos this];omega
 rename_i h1;rw[if_neg h1] at h;split
 ·rename_i h2;have:1≤cntW yQ (c::r):=by rw[cntW,if_pos h2];omega
  have:cntW yQ (c::r)≤numN (c::r):=by unfold numN;simp only;split<;>omega
  dsimp only;omega
 rename_i h2;rw[if_neg h2] at h;split
 ·rename_i h3;rw[if_pos h3] at h;split
  ·dsimp only;omega
  rename_i h4;rw[if_neg h4] at h;cases h
 rename_i h3;rw[if_neg h3] at h;split
 ·dsimp only;omega
 rename_i h4;rw[if_neg h4] at h;split
 ·exact Nat.le_refl _
 rename_i h5;rw[if_neg h5] at h;split
 ·dsimp only;omega
 rename_i h6;rw[if_neg h6] at h;split
 ·dsimp only;omega
 rename_i h7;rw[if_neg h7] at h;split
 ·dsimp only;omega
 rename_i h8;rw[if_neg h8] at h;cases h
theorem zJy{α:Type}(a b:List α)(x:Option (List α)):andL (some a) (andL (some b) x)=andL (some (a++b)) x:=by
 cases x with
 |none=>rfl
 |some y=>simp [andL]
theorem zLE{α:Type}(a:Option (List α)):andL a none=none:=by cases a<;>rfl
theorem zTv{α:Type}(x:Option (List α)):andL (some []) x=x:=by cases x<;>rfl
def RX.T:RX→List Node
 |.ok _ _ _ T=>T
 |.pan _ _ _ T=>T
theorem jM{l:List Tok}:∀(f:Nat) (c:Cmd) (i d:Nat) (T:List Node) (r:RX),PX l f c i d T=some r→T.length≤r.T.length
 |0,c,i,d,T,r,h=>by simp [PX] at h
 |f+1,c,i,d,T,r,h=>by
  have ih:=jM (l:=l) f;cases c with
  |lev n =>
   rw[PX] at h;split at h
   ·split at h
    ·split at h
     ·cases h;exact Nat.le_refl _
     split at h
     ·rename_i hh;cases h;have:=ih _ _ _ _ _ hh;simp only[RX.T,List.length_append,List.length_cons,List.length_nil] at this ⊢;omega
     exact ih _ _ _ _ _ h
    exact ih _ _ _ _ _ h
   split at h
   ·split at h
    ·rename_i hh;have h1:=ih _ _ _ _ _ hh;have h2:=ih _ _ _ _ _ h;simp only[RX.T] at h1;omega
    exact ih _ _ _ _ _ h
   split at h
   ·cases h;exact Nat.le_refl _
   split at h
   ·cases h;simp [RX.T]
   split at h
   ·cases h;simp [RX.T]
   split at h
   ·cases h;simp [RX.T]
   split at h
   ·split at h
    ·split at h
     ·split at h
      ·cases h;exact Nat.le_refl _
      exact ih _ _ _ _ _ h
     cases h;exact Nat.le_refl _
    split at h
    ·cases h;simp [RX.T]
    cases h;exact Nat.le_refl _
   split at h
   ·split at h
    ·cases h;exact Nat.le_refl _
    split at h
    ·rename_i hh;have:=ih _ _ _ _ _ hh;split at h
     ·cases h;exact this
     cases h;exact this
    exact ih _ _ _ _ _ h
   cases h;exact Nat.le_refl _
  |row n a =>
   rw[PX] at h;split at h
   ·cases h;exact Nat.le_refl _
   split at h
   ·rename_i hh;have h1:=ih _ _ _ _ _ hh;simp only[RX.T] at h1;split at h
    ·have:=ih _ _ _ _ _ h;simp only[List.length_append,List.length_cons,List.length_nil] at this;omega
    cases h;simp only[RX.T,List.length_append,List.length_cons,List.length_nil];omega
   exact ih _ _ _ _ _ h
  |call op least most kids p =>
   rw[PX] at h;split at h
   ·rename_i hh;have h1:=ih _ _ _ _ _ hh;simp only[RX.T] at h1;split at h
    ·cases h;exact h1
    split at h
    ·have:=ih _ _ _ _ _ h;omega
    split at h
    ·cases h;simp only[RX.T,List.length_append,List.length_cons,List.length_nil];omega
    cases h;exact h1
   exact ih _ _ _ _ _ h
theorem kF{T T':List Node}(h:T.length≤T'.length):T≠[]→T'≠[]:=fun h1 h2=>h1 (List.length_eq_zero_iff.1 (by rw[h2] at h;simpa using h))
def NOK(l:List Tok)(x:Node):Prop:=VB x.v∧x.kids.l.length≤l.length+2
def Cmd.kn(i:Nat):Cmd→Prop
 |.call _ _ _ kids _=>kids.length≤i
 |_=>True
def GX(l:List Tok)(i:Nat):RX→Prop
 |.ok _ i' _ T=>i≤i'∧i'≤l.length∧∀x ∈ T,NOK l x
 |.pan _ _ _ _=>True
theorem GX.mono{l:List Tok}{i j:Nat}{r:RX}(h:GX l i r)(hj:j≤i):GX l j r:=by
 cases r with
 |ok a i' d T=>exact⟨Nat.le_trans hj h.1,h.2⟩
 |pan=>trivial
theorem zA7{l:List Tok}{T:List Node}{y:Node}(h:∀x ∈ T,NOK l x)(hy:NOK l y):∀x ∈ T++[y],NOK l x:=by
 intro x hx;rcases List.mem_append.1 hx with hx|hx
 ·exact h x hx
 rw[List.mem_singleton.1 hx];exact hy
theorem zAY{l:List Tok}{op:Int}{v:Val}{name:List Nat}{kids:List Int}{p:Int×Int}(hv:VB v)(hk:kids.length≤l.length+2):NOK l (vD op v name kids p):=by
 refine⟨hv,?_⟩;unfold vD;dsimp only;split
 ·simp
 exact hk
theorem zW9{s:List Nat}{v:Val}(h:kN s zDh=some v):VB v:=by
 unfold zDh at h;simp only[kN] at h;split at h
 ·cases h;exact zKv
 split at h
 ·cases h;exact zNa
 split at h
 ·cases h;exact jV
 cases h
theorem zRg{l:List Tok}(hl:∀t ∈ l,VB t.v):∀(f:Nat) (c:Cmd) (i d:Nat) (T:List Node) (r:RX),PX l f c i d T=some r→i≤l.length→(∀x ∈ T,NOK l x)→c.kn i→GX l i r
 |0,c,i,d,T,r,h,_,_,_=>by simp [PX] at h
 |f+1,c,i,d,T,r,h,hi,hT,hc=>by
  have ih:=zRg (l:=l) hl f;cases c with
  |lev n =>
   rw[PX] at h;split at h
   ·split at h
    ·rename_i hw;have hlt:=yC hw;split at h
     ·cases h;trivial
     split at h
     ·rename_i hh;cases h;have:=ih _ _ _ _ _ hh (by omega) hT trivial;exact⟨by have:=this.1;omega,this.2.1,zA7 this.2.2 (zAY jV (by simp))⟩
     exact(ih _ _ _ _ _ h (by omega) hT trivial).mono (by omega)
    exact ih _ _ _ _ _ h hi hT trivial
   split at h
   ·split at h
    ·rename_i hh;have h1:=ih _ _ _ _ _ hh hi hT trivial;have h2:=ih _ _ _ _ _ h h1.2.1 h1.2.2 trivial;exact h2.mono h1.1
    exact ih _ _ _ _ _ h hi hT trivial
   split at h
   ·cases h;trivial
   rename_i t ht;have hlt:=getElem?_lt ht;have hv:VB t.v:=hl t (List.mem_of_getElem? ht);split at h
   ·cases h;exact⟨by omega,by omega,zA7 hT (zAY hv (by simp))⟩
   split at h
   ·cases h;exact⟨by omega,by omega,zA7 hT (zAY jV (by simp))⟩
   split at h
   ·cases h;exact⟨by omega,by omega,zA7 hT (zAY jV (by simp))⟩
   split at h
   ·split at h
    ·split at h
     ·rename_i hw;have hlt2:=yC hw;split at h
      ·cases h;trivial
      exact(ih _ _ _ _ _ h (by omega) hT (by simp [Cmd.kn])).mono (by omega)
     cases h;trivial
    split at h
    ·rename_i v hf;cases h;exact⟨by omega,by omega,zA7 hT (zAY (zW9 hf) (by simp))⟩
    cases h;trivial
   split at h
   ·split at h
    ·cases h;trivial
    split at h
    ·rename_i hh;have:=ih _ _ _ _ _ hh (by omega) hT trivial;split at h
     ·rename_i hw;have hlt2:=yC hw;cases h;exact⟨by have:=this.1;omega,by omega,this.2.2⟩
     cases h;trivial
    exact(ih _ _ _ _ _ h (by omega) hT trivial).mono (by omega)
   cases h;trivial
  |row n a =>
   rw[PX] at h;split at h
   ·cases h;exact⟨Nat.le_refl _,hi,hT⟩
   rename_i hx;have hlt:=zBZ hx;split at h
   ·rename_i hh;have h1:=ih _ _ _ _ _ hh (by omega) hT trivial;have hk:∀(a b:Int),[a,b].length≤l.length+2:=fun a b=>by simp
    split at h
    ·have:=ih _ _ _ _ _ h h1.2.1 (zA7 h1.2.2 (zAY jV (hk _ _))) trivial;exact this.mono (by have:=h1.1;omega)
    cases h;exact⟨by have:=h1.1;omega,h1.2.1,zA7 h1.2.2 (zAY jV (hk _ _))⟩
   exact(ih _ _ _ _ _ h (by omega) hT trivial).mono (by omega)
  |call op least most kids p =>
   rw[PX] at h;have hc:kids.length≤i:=hc;split at h
   ·rename_i hh;have h1:=ih _ _ _ _ _ hh hi hT trivial;have hk:∀a:Int,(kids++[a]).length≤l.length+2:=fun a=>by simp;omega
    split at h
    ·cases h;trivial
    split at h
    ·rename_i hw;have hlt2:=yC hw;have:=ih _ _ _ _ _ h (by omega) h1.2.2 (by show (kids++[_]).length≤_;have:=h1.1;simp;omega);exact this.mono (by have:=h1.1;omega)
    split at h
    ·rename_i hw;have hlt2:=yC hw;cases h;exact⟨by have:=h1.1;omega,by omega,zA7 h1.2.2 (zAY jV (hk _))⟩
    cases h;trivial
   exact ih _ _ _ _ _ h hi hT trivial
theorem zGn{l:List Tok}(hl:∀t ∈ l,VB t.v){i:Nat}(hi:i≤l.length):(∀x ∈ (zG l i).1,NOK l x)∧(zG l i).1.length≤60:=by
 obtain⟨r,hr⟩:=zDb hi;have hr2:=hr;unfold PXF at hr2;have:=zRg hl _ _ _ _ _ _ hr2 hi (by simp) trivial;unfold zG;rw[hr];cases r with
 |ok a i' d' T =>
  dsimp only;split
  ·simp
  exact⟨this.2.2,by dsimp only;omega⟩
 |pan e i' d' T=>simp
structure TNK (l:List Tok) (x:Test):Prop where
 a:∃L,x.a=slX L∧L.length≤60∧∀y ∈ L,NOK l y
 b:∃L,x.b=slX L∧L.length≤60∧∀y ∈ L,NOK l y
 kids:x.kids.l.length≤l.length+1
theorem zCZ{l:List Tok}{op:Int}{a b:List Node}{low high:Bool}{ks:List Nat}{p:Int×Int}(ha:(∀x ∈ a,NOK l x)∧a.length≤60)(hb:(∀x ∈ b,NOK l x)∧b.length≤60)(hk:ks.length≤l.length+1):TNK l (yY op a b low high ks p) :=
 ⟨⟨a,rfl,ha.2,ha.1⟩,⟨b,rfl,hb.2,hb.1⟩,by simp only[yY,zJn,xU,List.length_map];exact hk⟩
theorem zC8{l:List Tok}{T:List Test}{y:Test}(h:∀x ∈ T,TNK l x)(hy:TNK l y):∀x ∈ T++[y],TNK l x:=by
 intro x hx;rcases List.mem_append.1 hx with hx|hx
 ·exact h x hx
 rw[List.mem_singleton.1 hx];exact hy
def GU(l:List Tok):RU→Prop
 |.ok _ _ _ T=>∀x ∈ T,TNK l x
 |.oks _ _ _ T=>∀x ∈ T,TNK l x
 |.pan _ _=>True
theorem zCp(l:List Tok):(∀x ∈ ([]:List Node),NOK l x)∧([]:List Node).length≤60:=⟨by simp,by simp⟩
theorem zMw{l:List Tok}(hl:∀t ∈ l,VB t.v){op:Int}{p:Int×Int}{i n:Nat}{T:List Test}(hi:i≤l.length)(hT:∀x ∈ T,TNK l x):GU l (cmpX l op p i n T):=by
 unfold cmpX;split
 ·exact zC8 hT (zCZ (zGn hl hi) (zCp l) (by simp))
 trivial
theorem zTF{l:List Tok}(hl:∀t ∈ l,VB t.v){i n:Nat}{T:List Test}(h:vZ l i=true)(hT:∀x ∈ T,TNK l x):GU l (rngX l i n T):=by
 obtain⟨h1,h2,h3⟩:=zBv h;have h4:=yC h3;unfold rngX;split
 ·split
  ·exact zC8 hT (zCZ (zGn hl (by omega)) (zGn hl (by omega)) (by simp))
  trivial
 trivial
theorem zJk{l:List Tok}(hl:∀t ∈ l,VB t.v):∀(f:Nat) (c:UC) (i n:Nat) (T:List Test) (r:RU),UX l f c i n T=some r→i≤l.length→(∀x ∈ T,TNK l x)→c.kl.length≤i→GU l r
 |0,c,i,n,T,r,h,_,_,_=>by simp [UX] at h
 |f+1,.one,i,n,T,r,h,hi,hT,hc=>by
  have ih:=zJk (l:=l) hl f;rw[UX] at h;split at h
  ·cases h;exact zC8 hT (zCZ (zCp l) (zCp l) (by simp))
  split at h
  ·rename_i hn;simp only[notX,Bool.and_eq_true] at hn;have:=yC hn.2;split at h
   ·cases h;trivial
   cases hh:UX l f .tests (i+2) (n+1) T with
   |none=>rw[hh] at h;cases h
   |some x =>
    have hw:=ih _ _ _ _ _ hh (by omega) hT (by simp [UC.kl]);rw[hh] at h;cases x with
    |ok k i' n' T' =>
     dsimp only at h;split at h
     ·cases h;exact zC8 hw (zCZ (zCp l) (zCp l) (by simp))
     cases h;trivial
    |oks ks i' n' T'=>cases h;exact hw
    |pan e i'=>cases h;trivial
  split at h
  ·rename_i hr;have h:=Option.some.inj h;subst h;exact zTF hl hr hT
  split at h
  ·rename_i op hs;have h:=Option.some.inj h;subst h;have:=zIw hs;exact zMw hl (by omega) hT
  have h:=Option.some.inj h;subst h;exact zMw hl hi hT
 |f+1,.list ks,i,n,T,r,h,hi,hT,hc=>by
  have ih:=zJk (l:=l) hl f;rw[UX] at h;split at h
  ·rename_i hcm;simp only[Bool.and_eq_true] at hcm;have:=yC hcm.1;cases hh:UX l f .one (i+1) n T with
   |none=>rw[hh] at h;cases h
   |some x =>
    have hk:=yU _ _ _ _ _ _ hh (by omega);have hw:=ih _ _ _ _ _ hh (by omega) hT (by simp [UC.kl]);rw[hh] at h;cases x with
    |ok k i' n' T' =>
     dsimp only at h;obtain⟨_,q1,q2,q3,q4,q5,q6⟩:=hk;have hc:ks.length≤i:=hc;exact ih _ _ _ _ _ h q2 hw (by show (ks++[k]).length≤i';simp;omega)
    |oks ks i' n' T'=>exact absurd hk.1 id
    |pan e i'=>cases h;trivial
  cases h;exact hT
 |f+1,.tests,i,n,T,r,h,hi,hT,hc=>by
  have ih:=zJk (l:=l) hl f;rw[UX] at h;cases hh:UX l f .one i n T with
  |none=>rw[hh] at h;cases h
  |some x =>
   have hk:=yU _ _ _ _ _ _ hh hi;have hw:=ih _ _ _ _ _ hh hi hT (by simp [UC.kl]);rw[hh] at h;cases x with
   |ok k i' n' T' =>
    dsimp only at h;obtain⟨_,q1,q2,q3,q4,q5,q6⟩:=hk;cases hl2:UX l f (.list [k]) i' n' T' with
    |none=>rw[hl2] at h;cases h
    |some y =>
     have hk2:=yU _ _ _ _ _ _ hl2 q2;have hw2:=ih _ _ _ _ _ hl2 q2 hw (by show 1≤i';omega);rw[hl2] at h;cases y with
     |ok k i' n' T'=>exact absurd hk2.1 id
     |pan e i'=>cases h;trivial
     |oks K i2 n2 T2 =>
      obtain⟨_,w1,w2,w3,w4,w5,m,w6,w7⟩:=hk2;have hKl:K.length≤l.length+1:=by
       have e:UC.ks (.list [k])=1:=rfl;rw[e] at w4;omega
      match K,h,hKl with
      |[],h,hKl=>cases h;exact zC8 hw2 (zCZ (zCp l) (zCp l) (by simp))
      |[a],h,hKl=>cases h;exact hw2
      |a::b::c,h,hKl=>cases h;exact zC8 hw2 (zCZ (zCp l) (zCp l) hKl)
   |oks ks i' n' T'=>exact absurd hk.1 id
   |pan e i'=>cases h;trivial
theorem zPi{l:List Tok}(hl:∀t ∈ l,VB t.v)(h:(xW l 0).2.2=0):(∀x ∈ (xW l 0).1,TNK l x)∧(xW l 0).1.length≤30:=by
 obtain⟨f,k,n,h1,h2⟩:=zHr (l:=l) (Nat.zero_le _) h;exact⟨zJk hl _ _ _ _ _ _ h1 (Nat.zero_le _) (by simp) (by simp [UC.kl]),h2⟩
theorem zWB{vp:List Nat→Val×Int}(hvp:∀x,VB (vp x).1)(s:List Nat)(h:(xO vp s).2.2=0):VB (xO vp s).1.2.2:=by
 unfold xO at h ⊢;dsimp only at h ⊢;split
 ·exact jV
 split
 ·exact hvp _
 split
 ·split
  ·exact hvp _
  exact jV
 split
 ·exact jV
 split
 ·exact jV
 split
 ·rename_i h1 h2 h3 h4 h5 h6;rw[if_neg h1,if_neg h2,if_neg h3,if_neg h4,if_neg h5,if_pos h6] at h;dsimp only at h;refine⟨⟨by simp [VSym],by simp [VSym]⟩,?_⟩
  show (List.take _ _).length<_
  by_cases h7:12<(List.take (cntW xF (List.drop 1 s)) (List.drop 1 s)).length
  ·rw[if_pos h7] at h;cases h
  omega
 split
 ·exact jV
 split
 ·exact jV
 exact jV
theorem zN1{vp:List Nat→Val×Int}(hvp:∀x,VB (vp x).1):∀(n:Nat) (s:List Nat),s.length≤n→∀B,lexB vp s=some B→(∀b ∈ B,VB b.2.2)∧B.length≤s.length
 |_,[],_,B,h=>by
  rw[lexB] at h;cases h;exact⟨by simp,by simp⟩
 |0,c::r,hn,B,h=>by simp at hn
 |n+1,c::r,hn,B,h=>by
  have hn:r.length≤n:=by simpa using hn
  have ih:=zN1 (vp:=vp) hvp n;have dl:∀k,(r.drop k).length≤n:=fun k=>by rw[List.length_drop];omega
  have dl2:∀k,(r.drop k).length≤r.length:=fun k=>by rw[List.length_drop];omega
  rw[lexB] at h;simp only[List.length_cons];split at h
  ·have:=ih r hn B h;exact⟨this.1,by omega⟩
  split at h
  ·have:=ih _ (dl _) B h;exact⟨this.1,by have:=this.2;have:=dl2 (cntW (fun c=>c != 10) r);omega⟩
  split at h
  ·rename_i hw;split at h
   ·rename_i l hl;have:=ih _ (dl _) l hl;cases h;refine⟨fun b hb=>?_,?_⟩
    ·rcases List.mem_cons.1 hb with rfl|hb
     ·exact zWB hvp _ hw
     exact this.1 b hb
    have h2:=this.2;have:=dl2 ((xO vp (c::r)).2.1 - 1);simp only[List.length_cons];omega
   cases h
  cases h
theorem zOg{vp:List Nat→Val×Int}(hvp:∀x,VB (vp x).1){s:List Nat}{L:List Tok}(h:lexB vp s=some (L.map Tok.b)):(∀t ∈ L,VB t.v)∧L.length≤s.length:=by
 obtain⟨h1,h2⟩:=zN1 hvp s.length s (Nat.le_refl _) _ h;exact⟨fun t ht=>h1 _ (List.mem_map.2 ⟨t,ht,rfl⟩),by simpa using h2⟩
end Go.Ab
