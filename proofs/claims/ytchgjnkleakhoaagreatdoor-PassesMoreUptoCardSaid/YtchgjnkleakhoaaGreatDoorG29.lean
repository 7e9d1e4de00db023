/- Lemmas. -/
import Derived.Test.YtchgjnkleakhoaaGreatDoorG07
import Derived.Test.YtchgjnkleakhoaaGreatDoorG23
set_option maxRecDepth 1000000
set_option maxHeartbeats 40000000
set_option linter.all false
namespace Go.Ab
open Go.Proofs
attribute [local irreducible] W RW RR
def zDN:List (List Nat×Nat):=[([],8),([],8),([],8),([],8),([111,114],0),([97,110,100],1),([110,111,116,32],2),([61],3),([60,62],3),([60],3),([60,61],3),([62],3),([62,61],3),([43],4),([45],4),([42],5),([47],5),([45],6),
 ([97,98,115],8),([109,105,110],8),([109,97,120],8),([109,111,100],8),([108,101,110,103,116,104],8),([117,112,112,101,114],8),([99,111,110,116,97,105,110,115],8),([115,116,97,114,116,115],8),([105,102],8)]
def ofX(op:Int):List Nat×Nat:=zDN.getD op.toNat ([],8)
def ag2(a b:Tree):zT (.t (.agg [a,b]))=some [.t a,.t b]:=rfl
def part1(a b:AV):part Tryz.prog 3 [a,b] 1=some b:=by kernel_rfl
def part0(a b:AV):part Tryz.prog 9 [a,b] 0=some a:=by kernel_rfl
def zXE{op:Int}(h0:0≤op)(h1:op<256):Om CC 194 [.t (.int .u8 op)] []=some (.val (.t (.agg [.str (ofX op).1,.int .i64 ((ofX op).2:Nat)])),[]):=by
 obtain⟨k,rfl⟩:∃k:Nat,op=k:=⟨op.toNat,by omega⟩;rcases Nat.lt_or_ge k 27 with h|h
 ·clear h0 h1
  match k,h with
  |0,_|1,_|2,_|3,_|4,_|5,_|6,_|7,_|8,_|9,_|10,_|11,_|12,_|13,_|14,_|15,_|16,_|17,_|18,_|19,_|20,_|21,_|22,_|23,_|24,_|25,_|26,_=>exact jR (n:=20) (by kernel_rfl)
  |n+27,h=>exact absurd h (by omega)
 have hg:decide ((k:Int) > 26)=true:=by simp;omega
 have hX:ofX (k:Int)=([],8):=by unfold ofX;rw[List.getD,List.getElem?_eq_none (by simp [zDN];omega)];rfl
 have hs:Om CC 237 [] []=some (.val (.t (.agg [.str [],.int .i64 8,.str [],.int .i64 8,.str [],.int .i64 8,.str [],.int .i64 8,.str [111,114],.int .i64 0,.str [97,110,100],.int .i64 1,.str [110,111,116,32],.int .i64 2,.str [61],.int .i64 3,.str [60,62],.int .i64 3,.str [60],.int .i64 3,.str [60,61],.int .i64 3,.str [62],.int .i64 3,.str [62,61],.int .i64 3,.str [43],.int .i64 4,.str [45],.int .i64 4,.str [42],.int .i64 5,.str [47],.int .i64 5,.str [45],.int .i64 6,.str [97,98,115],.int .i64 8,.str [109,105,110],.int .i64 8,.str [109,97,120],.int .i64 8,.str [109,111,100],.int .i64 8,.str [108,101,110,103,116,104],.int .i64 8,.str [117,112,112,101,114],.int .i64 8,.str [99,111,110,116,97,105,110,115],.int .i64 8,.str [115,116,97,114,116,115],.int .i64 8,.str [105,102],.int .i64 8])),[]):=jR (n:=20) (by kernel_rfl);have hi:∀S,Hid (S=[.str [],.int .i64 8,.str [],.int .i64 8,.str [],.int .i64 8,.str [],.int .i64 8,.str [111,114],.int .i64 0,.str [97,110,100],.int .i64 1,.str [110,111,116,32],.int .i64 2,.str [61],.int .i64 3,.str [60,62],.int .i64 3,.str [60],.int .i64 3,.str [60,61],.int .i64 3,.str [62],.int .i64 3,.str [62,61],.int .i64 3,.str [43],.int .i64 4,.str [45],.int .i64 4,.str [42],.int .i64 5,.str [47],.int .i64 5,.str [45],.int .i64 6,.str [97,98,115],.int .i64 8,.str [109,105,110],.int .i64 8,.str [109,97,120],.int .i64 8,.str [109,111,100],.int .i64 8,.str [108,101,110,103,116,104],.int .i64 8,.str [117,112,112,101,114],.int .i64 8,.str [99,111,110,116,97,105,110,115],.int .i64 8,.str [115,116,97,114,116,115],.int .i64 8,.str [105,102],.int .i64 8])→index Tryz.prog 300 (.t (.agg S)) 0=some (.t (.agg [.str [],.int .i64 8])):=fun S h=>by rw[h.h];kernel_rfl
 have hi:=hi _ ⟨rfl⟩;rw[hX];refine zK zYU rfl ?_
 (have F_:=c5 zG zE zD zAY (c3 yBi yE6 yB0);show W CC 0 8 (zA 194) _ ⟨[(0,_)],[]⟩ _)
 (refine gA ?_)
 (refine aK ?_ ?_)
 ·rfl
 rfl
def sC(s:List Nat):List Tree:=[.str s]
def kidX(T:List Node)(X:List (List Nat))(i k least:Nat):List Nat :=
 match T[i]? with
 |none=>[]
 |some n=>match n.kids.l[k]? with
  |none=>[]
  |some c=>if 0≤c∧c<(i:Int) then match T[c.toNat]?,X[c.toNat]? with
    |some m,some s=>if (ofX m.op).2<least then 40::s++[41] else s
    |_,_=>[]
   else []
def wr(a b:Bool)(T:List Node)(X:List (List Nat)):Heap:=[.box [.t (.sl a b (T.map Node.c)),.hs 1 0],.arr 1 0 false (X.map sC)]
def zJl{T:List Node}{i:Nat}{n:Node}(h:T[i]?=some n):(T.map Node.c)[i]?=some [.int .u8 n.op,.int .u8 n.v.k,.int .i64 n.v.n,.str n.v.s,.str n.name,.sl n.kids.nl n.kids.cl (n.kids.l.map intC),.int .i64 n.line,.int .i64 n.col]:=by
 rw[List.getElem?_map,h];rfl
def xa4:=c5 zF zG zE zD (c5 zI zB xC zO (c5 zL zN zAO zAM (c5 zAY zKB zBg @ag2 @part1)))
def yEp (a b:Bool) (T:List Node) (X:List (List Nat)) (i k least:Nat) (hX:X.length=T.length) (hi:i<T.length) (ho:∀m ∈ T,0≤m.op∧m.op<256) (hs:∀s ∈ X,s.length≤65536) :
  Om CC 196 [.box 0 0,.t (.int .i64 (i:Int)),.t (.int .i64 (k:Int)),.t (.int .i64 (least:Int))] (wr a b T X)=some (.val (.t (.str (kidX T X i k least))),wr a b T X):=by
 obtain⟨n,hn⟩:∃n,T[i]?=some n:=⟨_,List.getElem?_eq_getElem hi⟩;have hN:=zJl hn;unfold kidX;rw[hn];dsimp only;unfold wr;cases hk:n.kids.l[k]? with
 |none =>
  have hkl:decide ((k:Int) ≥ ((n.kids.l.length:Nat):Int))=true:=by have:=List.getElem?_eq_none_iff.1 hk;simp;omega
  generalize T.map Node.c=l at *;generalize X.map sC=E at *;clear hk hn ho hs;refine zK zIL rfl ?_
  (have F_:=xa4;show W CC 2 67 (zA 196) _ ⟨[(0,_),(1,_),(2,_),(3,_)],[_,_]⟩ _)
  (refine gA ?_)
  (refine aK ?_ ?_)
  ·rfl
  rfl
 |some c =>
  have hkl:decide ((k:Int) ≥ (((n.kids.l.map intC).length:Nat):Int))=false:=by have:=(List.getElem?_eq_some_iff.1 hk).1;simp;omega
  have hK:(n.kids.l.map intC)[k]?=some [.int .i64 c]:=by rw[List.getElem?_map,hk];rfl
  dsimp only
  by_cases hc:0≤c∧c<(i:Int)
  ·rw[if_pos hc];obtain⟨j,rfl⟩:∃j:Nat,c=j:=⟨c.toNat,by omega⟩;have hj:j<T.length:=by omega
   obtain⟨m,hm⟩:∃m,T[j]?=some m:=⟨_,List.getElem?_eq_getElem hj⟩;obtain⟨s,hsx⟩:∃s,X[j]?=some s:=⟨_,List.getElem?_eq_getElem (by omega)⟩;have hM:=zJl hm;have hS:(X.map sC)[j]?=some [.str s]:=by rw[List.getElem?_map,hsx];rfl
   have hSn:nth (X.map sC) j=some [.str s]:=by rw[yP];exact hS
   have l0:((0:Int)≤(j:Int))=True:=by simp
   have l1:((j:Int)<(((X.map sC).length:Nat):Int))=True:=by have:j<X.length:=(by omega);simpa using this
   have hof:=zXE (ho m (List.mem_of_getElem? hm)).1 (ho m (List.mem_of_getElem? hm)).2;have hl:=hs s (List.mem_of_getElem? hsx);have d1:decide ((j:Int)<0)=false:=by simp
   have d2:decide ((j:Int) ≥ (i:Int))=false:=by simp;omega
   have d3:decide ((((ofX m.op).2:Nat):Int)<(least:Int))=decide ((ofX m.op).2<least):=by simp
   have e1:binop Tryz.prog .add 9 (.t (.str [40])) (.t (.str s))=some (.t (.str (40::s))):=yF (by simp;omega);have e2:binop Tryz.prog .add 9 (.t (.str (40::s))) (.t (.str [41]))=some (.t (.str (40::s++[41]))):=yF (by simp;omega);rw[Int.toNat_natCast,hm,hsx];dsimp only;clear ho hs hj hc hm hsx hl hk hn hX hi;generalize T.map Node.c=l at *;generalize X.map sC=E at *;generalize n.kids.l.map intC=Kl at *
   by_cases hq:(ofX m.op).2<least
   ·rw[if_pos hq];rw[decide_eq_true hq] at d3;clear hq;refine zK zIL rfl ?_
    (have F_:=xa4;show W CC 2 67 (zA 196) _ ⟨[(0,_),(1,_),(2,_),(3,_)],[_,_]⟩ _)
    (refine gA ?_)
    (refine aK ?_ ?_)
    ·rfl
    rfl
   rw[if_neg hq];rw[decide_eq_false hq] at d3;clear hq;refine zK zIL rfl ?_
   (have F_:=xa4;show W CC 2 67 (zA 196) _ ⟨[(0,_),(1,_),(2,_),(3,_)],[_,_]⟩ _)
   (refine gA ?_)
   (refine aK ?_ ?_)
   ·rfl
   rfl
  rw[if_neg hc];have hcc:decide (c<0)=true∨(decide (c<0)=false∧decide (c ≥ (i:Int))=true):=by
   by_cases h:c<0
   ·exact .inl (by simpa using h)
   exact .inr ⟨by simpa using h,by simp;omega⟩
  clear hc ho hs hk hn;generalize T.map Node.c=l at *;generalize X.map sC=E at *;generalize n.kids.l.map intC=Kl at *;rcases hcc with h|⟨h,h'⟩
  all_goals refine zK zIL rfl ?_<;>(have F_:=xa4;show W CC 2 67 (zA 196) _ ⟨[(0,_),(1,_),(2,_),(3,_)],[_,_]⟩ _)<;>(refine gA ?_)<;>refine aK ?_ ?_<;>(rfl)
structure PNode (n:Node):Prop where
 op:0≤n.op∧n.op<256
 v:R64 n.v.n∧n.v.s.length≤10000000
 name:n.name.length≤10000000
 kids:n.kids.l.length≤1000000000
def zPg(v:Val):∃r:List Nat,R64 v.n∧v.s.length≤10000000→Om CC 195 [.t (.agg [.int .u8 v.k,.int .i64 v.n,.str v.s])] []=some (.val (.t (.str r)),[])∧(Byt v.s→Byt r):=by
 by_cases h:R64 v.n∧v.s.length≤10000000
 ·obtain⟨r,hr,hb⟩:=zBa v h.1 h.2;exact⟨r,fun _=>⟨hr,hb⟩⟩
 exact⟨[],fun h'=>absurd h' h⟩
noncomputable def vtT(v:Val):List Nat:=Classical.choose (zPg v)
def yFY(v:Val)(h:R64 v.n∧v.s.length≤10000000):Om CC 195 [.t (.agg [.int .u8 v.k,.int .i64 v.n,.str v.s])] []=some (.val (.t (.str (vtT v))),[]):=(Classical.choose_spec (zPg v) h).1
def yHG(v:Val)(h:R64 v.n∧v.s.length≤10000000):Byt v.s→Byt (vtT v):=(Classical.choose_spec (zPg v) h).2
def jG(l:List (List Nat))(sep:List Nat):List Nat:=nb (Go.Lib.join (l.map ub) (ub sep))
def zU8(m:Nat)(sep:List UInt8):∀l:List (List UInt8),(∀x ∈ l,x.length≤m)→(Go.Lib.joinTail sep l).length≤l.length * (m+sep.length)
 |[],_=>by simp [Go.Lib.joinTail]
 |c::r,h=>by
  have h1:=h c (by simp);have h2:=zU8 m sep r (fun x hx=>h x (List.mem_cons_of_mem _ hx));simp only[Go.Lib.joinTail,List.map_cons,List.flatten_cons,List.length_append,List.length_cons,Nat.add_mul,Nat.one_mul] at h2 ⊢;omega
def zRF(m:Nat)(sep:List UInt8)(l:List (List UInt8))(h:∀x ∈ l,x.length≤m):(Go.Lib.join l sep).length≤l.length * (m+sep.length):=by
 cases l with
 |nil=>simp [Go.Lib.join_nil]
 |cons c r =>
  have h1:=h c (by simp);have h2:=zU8 m sep r (fun x hx=>h x (List.mem_cons_of_mem _ hx));rw[Go.Lib.join_cons,List.length_append,List.length_cons,Nat.add_mul];omega
def zNl:∀l:List (List Nat),uS (l.map sC)=some l
 |[]=>rfl
 |s::l=>by show (match uS (l.map sC) with|some l=>some (s::l)|none=>none)=_;rw[zNl l]
def zP3{l:List (List Nat)}(h:∀x ∈ l,x.length≤65538)(hl:l.length≤1000000000)(nl cl:Bool):CC.prim 59 [.t (.sl nl cl (l.map sC)),.t (.str [44,32])]=some (.t (.str (jG l [44,32]))):=by
 have h1:=zRF 65538 (ub [44,32]) (l.map ub) (fun x hx=>by obtain⟨y,hy,rfl⟩:=List.mem_map.1 hx;simpa [ub] using h y hy);have h2:(ub [44,32]).length=2:=rfl;rw[List.length_map,h2] at h1;rw[yCY];unfold zFI;dsimp only;rw[zNl];dsimp only;rw[show Nat.ble l.length 140737488355328=true from Nat.ble_eq_true_of_le (by omega),show Nat.ble (Go.Lib.join (l.map ub) (ub [44,32])).length 140737488355328=true from Nat.ble_eq_true_of_le (by omega)]
 rfl
noncomputable def zB6(T:List Node)(X:List (List Nat))(i:Nat)(n:Node):List Nat :=
 if n.op=1 then vtT n.v
 else if n.op=2 then 63::n.name
 else if n.op=3 then [63]
 else if (ofX n.op).2=8 then (ofX n.op).1++[40]++jG ((List.range n.kids.l.length).map fun k=>kidX T X i k 0) [44,32]++[41]
 else if (ofX n.op).2=2∨(ofX n.op).2=6 then (ofX n.op).1++kidX T X i 0 (ofX n.op).2
 else if (ofX n.op).2=3 then kidX T X i 0 4++[32]++(ofX n.op).1++[32]++kidX T X i 1 4
 else kidX T X i 0 (ofX n.op).2++[32]++(ofX n.op).1++[32]++kidX T X i 1 ((ofX n.op).2+1)
def yFJ{T:List Node}{X:List (List Nat)}{i k least:Nat}(hs:∀s ∈ X,s.length≤65536):(kidX T X i k least).length≤65538:=by
 unfold kidX;split
 ·simp
 split
 ·simp
 split
 ·split
  ·rename_i m s hm hx;have:=hs s (List.mem_of_getElem? hx);split<;>simp<;>omega
  simp
 simp
def yHO(op:Int):(ofX op).1.length≤8∧(ofX op).2≤8:=by
 unfold ofX;rcases Nat.lt_or_ge op.toNat 27 with h|h
 ·have:∀k<27,(zDN.getD k ([],8)).1.length≤8∧(zDN.getD k ([],8)).2≤8:=by decide
  exact this _ h
 rw[List.getD,List.getElem?_eq_none (by simp [zDN];omega)];simp
def ktS(a b:Bool)(l E:List (List Tree))(i len:Nat)(w:List Nat)(x:Nat×Bool×List (List Nat)):St :=
 ⟨[(0,.box 0 0),(1,.t (.int .i64 (i:Int))),(6,.t (.str w)),(8,match x.2.1 with|true=>.hs 2 0|false=>.t (.sl true true [])),(62,.t (.int .i64 (len:Int))),(63,.t (.int .i64 (x.1:Int)))],
  match x.2.1 with|true=>[.box [.t (.sl a b l),.hs 1 0],.arr 1 0 false E,.arr 1 0 false (x.2.2.map sC)]|false=>[.box [.t (.sl a b l),.hs 1 0],.arr 1 0 false E]⟩
def xa5:=c5 zF zG zE zD (c5 zI zB xC zO (c5 zL zN zAO zAM (c5 zAY zEG zBg jB (c5 zEE zFc @ag2 @part1 @part0))))
def zZc (a b:Bool) (T:List Node) (X:List (List Nat)) (i:Nat) (n:Node) (hn:T[i]?=some n) (hX:X.length=T.length) (hT:∀m ∈ T,PNode m) (hs:∀s ∈ X,s.length≤65536) :
  Om CC 145 [.box 0 0,.t (.int .i64 (i:Int))] (wr a b T X)=some (.val (.t (.str (zB6 T X i n))),wr a b T X):=by
 have hi:i<T.length:=(List.getElem?_eq_some_iff.1 hn).1;have hN:=zJl hn;have hP:=hT n (List.mem_of_getElem? hn);have hof:=zXE hP.op.1 hP.op.2;have hk:=fun k least=>yEp a b T X i k least hX hi (fun m hm=>(hT m hm).op) hs
 have hkl:=fun k least=>@yFJ T X i k least hs
 obtain⟨hol,hl8⟩:=yHO n.op;unfold zB6;unfold wr at hk ⊢;generalize hw:(ofX n.op).1=w at *;generalize hlv:(ofX n.op).2=lv at *;clear hn hX hT hs hw;generalize hKX:kidX T X i=K at *;generalize hl:T.map Node.c=l at *;generalize hE:X.map sC=E at *;obtain⟨op,⟨vk,vn,vs⟩,name,⟨knl,kcl,kl⟩,line,col⟩:=n;obtain⟨-,hv,hnm,hkn⟩:=hP;dsimp only at *
 by_cases o1:op=1
 ·have e1:(op==1)=true:=by simp [o1]
  have hvt:=yFY ⟨vk,vn,vs⟩ hv;rw[if_pos o1];clear hk hkl hlv o1 hv;refine zK zDg rfl ?_
  (have F_:=xa5;show W CC 2 107 (zA 145) _ ⟨[(0,_),(1,_)],[_,_]⟩ _)
  (repeat' first|refine gA ?_|refine gT ?_ ?_<;>intro hv<;>try cases hv;done|fail)
  (refine aK ?_ ?_)
  ·rfl
  rfl
 have e1:(op==1)=false:=by simpa using o1
 rw[if_neg o1]
 by_cases o2:op=2
 ·have e2:(op==2)=true:=by simp [o2]
  have e3:binop Tryz.prog .add 9 (.t (.str [63])) (.t (.str name))=some (.t (.str (63::name))):=yF (by simp;omega);rw[if_pos o2];clear hk hkl hlv o1 o2 hv;refine zK zDg rfl ?_
  (have F_:=xa5;show W CC 2 107 (zA 145) _ ⟨[(0,_),(1,_)],[_,_]⟩ _)
  (repeat' first|refine gA ?_|refine gT ?_ ?_<;>intro hv<;>try cases hv;done|fail)
  (refine aK ?_ ?_)
  ·rfl
  rfl
 have e2:(op==2)=false:=by simpa using o2
 rw[if_neg o2]
 by_cases o3:op=3
 ·have e3:(op==3)=true:=by simp [o3]
  rw[if_pos o3];clear hk hkl hlv o1 o2 o3 hv;refine zK zDg rfl ?_
  (have F_:=xa5;show W CC 2 107 (zA 145) _ ⟨[(0,_),(1,_)],[_,_]⟩ _)
  (repeat' first|refine gA ?_|refine gT ?_ ?_<;>intro hv<;>try cases hv;done|fail)
  (refine aK ?_ ?_)
  ·rfl
  rfl
 have e3:(op==3)=false:=by simpa using o3
 rw[if_neg o3];clear o1 o2 o3 hv hnm;have c8:(((lv:Nat):Int)==8)=decide (lv=8):=by rw[show (8:Int)=((8:Nat):Int) from rfl,zBv];rfl
 have c2:(((lv:Nat):Int)==2)=decide (lv=2):=by rw[show (2:Int)=((2:Nat):Int) from rfl,zBv];rfl
 have c6:(((lv:Nat):Int)==6)=decide (lv=6):=by rw[show (6:Int)=((6:Nat):Int) from rfl,zBv];rfl
 have c3':(((lv:Nat):Int)==3)=decide (lv=3):=by rw[show (3:Int)=((3:Nat):Int) from rfl,zBv];rfl
 by_cases l8:lv=8
 ·rw[if_pos l8];subst l8;have kk:∀k:Nat,Om CC 196 [.box 0 0,.t (.int .i64 (i:Int)),.t (.int .i64 (k:Int)),.t (.int .i64 0)] _=some (.val (.t (.str (K k 0))),_):=fun k=>hk k 0
  have mm:=fun k=>hkl k 0
  have kln:kl.length<4294967295:=by omega
  have hml:(kl.map intC).length=kl.length:=List.length_map ..;clear hk hkl c2 c6 c3';generalize kl.map intC=Kl at *;refine zK zDg rfl ?_
  (have F_:=xa5;show W CC 2 107 (zA 145) _ ⟨[(0,_),(1,_)],[_,_]⟩ _)
  (repeat' first|refine gA ?_|refine gT ?_ ?_<;>intro hv<;>try cases hv;done|fail)
  refine zY (ktS a b l E i kl.length w) (fun x=>kl.length - x.1) (fun x=>x.1≤kl.length∧x.2.2=(List.range x.1).map (fun k=>K k 0)∧(x.2.1=false→x.2.2=[])) (0,false,[]) (by simp only[ktS];exact aTd) ⟨Nat.zero_le _,rfl,fun _=>rfl⟩ ?_;rintro⟨j,st,out⟩ ⟨hj,ho,hno⟩;dsimp only at hj ho hno;have hle:lens 1 (out.map sC)=true:=by unfold lens;rw[List.all_map];exact List.all_eq_true.2 fun x _=>rfl
  have hol':out.length=j:=by rw[ho];simp
  have hom:∀x ∈ out,x.length≤65538:=fun x hx=>by rw[ho] at hx;obtain⟨k,-,rfl⟩:=List.mem_map.1 hx;exact mm k
  simp only[ktS]
  by_cases hj':j<kl.length
  ·have hw':IntKind.i64.wrap ((j:Int)+1)=((j+1:Nat):Int):=by rw[wrap64]<;>omega
   have hd:decide ((j:Int)<(kl.length:Int))=true:=by simpa using hj'
   have hsm:decide (j+1<4294967296)=true:=by(rw[decide_eq_true_eq];omega)
   have hag:Hid _:=⟨show out++[K j 0]=(List.range (j+1)).map (fun k=>K k 0) by rw[ho,List.range_succ,List.map_append];rfl⟩
   clear hom ho;cases st with
   |true =>
    clear hno
    (repeat' first|refine gA ?_|refine gT ?_ ?_<;>intro hv<;>try cases hv;done|fail)
    exact zC (j+1,true,out++[K j 0]) (by dsimp only;omega) ⟨hj',hag.h,fun h=>by cases h⟩ (by simp only[ktS];(have X_:=c2 @mapA @sC.eq_1;exact aTdX))
   |false =>
    have h0:=hno rfl;subst h0
    (repeat' first|refine gA ?_|refine gT ?_ ?_<;>intro hv<;>try cases hv;done|fail)
    exact zC (j+1,true,[]++[K j 0]) (by dsimp only;omega) ⟨hj',hag.h,fun h=>by cases h⟩ (by simp only[ktS];(have X_:=c2 @mapA @sC.eq_1;exact aTdX))
  obtain rfl:j=kl.length:=by omega
  have hd:decide ((kl.length:Int)<(kl.length:Int))=false:=by simp
  rw[← ho];have hjn:=zP3 hom (by omega);have hjl:(jG out [44,32]).length≤70000000000000:=by
   have h1:=zRF 65538 (ub [44,32]) (out.map ub) (fun x hx=>by obtain⟨y,hy,rfl⟩:=List.mem_map.1 hx;simpa [ub] using hom y hy);rw[List.length_map,show (ub [44,32]).length=2 from rfl] at h1;unfold jG nb;rw[List.length_map];omega
  clear hom ho hj';have s1:binop Tryz.prog .add 9 (.t (.str w)) (.t (.str [40]))=some (.t (.str (w++[40]))):=yF (by simp;omega);have s2:binop Tryz.prog .add 9 (.t (.str (w++[40]))) (.t (.str (jG out [44,32])))=some (.t (.str (w++[40]++jG out [44,32]))):=yF (by simp;omega);have s3:binop Tryz.prog .add 9 (.t (.str (w++[40]++jG out [44,32]))) (.t (.str [41]))=some (.t (.str (w++[40]++jG out [44,32]++[41]))):=yF (by simp;omega);cases st with
  |true =>
   have hj2:=hjn false false;clear hjn;generalize jG out [44,32]=J at *;generalize out.map sC=O at *
   (repeat' first|refine gA ?_|refine gT ?_ ?_<;>intro hv<;>try cases hv;done|fail)
   (refine aK ?_ ?_)
   ·rfl
   rfl
  |false =>
   have h0:=hno rfl;subst h0;have hj2:=hjn true true;clear hjn;generalize jG [] [44,32]=J at *;simp only[List.map_nil] at hj2
   (repeat' first|refine gA ?_|refine gT ?_ ?_<;>intro hv<;>try cases hv;done|fail)
   (refine aK ?_ ?_)
   ·rfl
   rfl
 rw[if_neg l8];rw[decide_eq_false l8] at c8;have hk0:∀least:Nat,Om CC 196 [.box 0 0,.t (.int .i64 (i:Int)),.t (.int .i64 0),.t (.int .i64 (least:Int))] _=some (.val (.t (.str (K 0 least))),_):=hk 0;have hk1:∀least:Nat,Om CC 196 [.box 0 0,.t (.int .i64 (i:Int)),.t (.int .i64 1),.t (.int .i64 (least:Int))] _=some (.val (.t (.str (K 1 least))),_):=hk 1;have m0:=hkl 0;have m1:=hkl 1;clear hk hkl
 by_cases l26:lv=2∨lv=6
 ·rw[if_pos l26];have k0:=hk0 lv;have s1:binop Tryz.prog .add 9 (.t (.str w)) (.t (.str (K 0 lv)))=some (.t (.str (w++K 0 lv))):=yF (by have:=m0 lv;omega);rcases l26 with rfl|rfl
  ·clear hk0 hk1 m0 m1 c8 c6 c3';refine zK zDg rfl ?_
   (have F_:=xa5;show W CC 2 107 (zA 145) _ ⟨[(0,_),(1,_)],[_,_]⟩ _)
   (repeat' first|refine gA ?_|refine gT ?_ ?_<;>intro hv<;>try cases hv;done|fail)
   (refine aK ?_ ?_)
   ·rfl
   rfl
  clear hk0 hk1 m0 m1 c8 c3';refine zK zDg rfl ?_
  (have F_:=xa5;show W CC 2 107 (zA 145) _ ⟨[(0,_),(1,_)],[_,_]⟩ _)
  (repeat' first|refine gA ?_|refine gT ?_ ?_<;>intro hv<;>try cases hv;done|fail)
  (refine aK ?_ ?_)
  ·rfl
  rfl
 rw[if_neg l26];rw[decide_eq_false (fun h=>l26 (.inl h))] at c2;rw[decide_eq_false (fun h=>l26 (.inr h))] at c6
 by_cases l3:lv=3
 ·rw[if_pos l3];rw[decide_eq_true l3] at c3';clear l3;have k0:Om CC 196 [.box 0 0,.t (.int .i64 (i:Int)),.t (.int .i64 0),.t (.int .i64 4)] _=some (.val (.t (.str (K 0 4))),_):=hk0 4;have k1:Om CC 196 [.box 0 0,.t (.int .i64 (i:Int)),.t (.int .i64 1),.t (.int .i64 4)] _=some (.val (.t (.str (K 1 4))),_):=hk1 4;have n0:=m0 4;have n1:=m1 4;clear hk0 hk1 m0 m1 hlv;generalize K 0 4=A0 at *;generalize K 1 4=A1 at *;have s1:binop Tryz.prog .add 9 (.t (.str A0)) (.t (.str [32]))=some (.t (.str (A0++[32]))):=yF (by simp;omega);have s2:binop Tryz.prog .add 9 (.t (.str (A0++[32]))) (.t (.str w))=some (.t (.str (A0++[32]++w))):=yF (by simp;omega);have s3:binop Tryz.prog .add 9 (.t (.str (A0++[32]++w))) (.t (.str [32]))=some (.t (.str (A0++[32]++w++[32]))):=yF (by simp;omega);have s4:binop Tryz.prog .add 9 (.t (.str (A0++[32]++w++[32]))) (.t (.str A1))=some (.t (.str (A0++[32]++w++[32]++A1))):=yF (by simp;omega);refine zK zDg rfl ?_
  (have F_:=xa5;show W CC 2 107 (zA 145) _ ⟨[(0,_),(1,_)],[_,_]⟩ _)
  (repeat' first|refine gA ?_|refine gT ?_ ?_<;>intro hv<;>try cases hv;done|fail)
  (refine aK ?_ ?_)
  ·rfl
  rfl
 rw[if_neg l3];rw[decide_eq_false l3] at c3';have hwl:=wI64 lv (by omega);have k0:Om CC 196 [.box 0 0,.t (.int .i64 (i:Int)),.t (.int .i64 0),.t (.int .i64 (lv:Int))] _=some (.val (.t (.str (K 0 lv))),_):=hk0 lv;have k1:Om CC 196 [.box 0 0,.t (.int .i64 (i:Int)),.t (.int .i64 1),.t (.int .i64 ((lv+1:Nat):Int))] _=some (.val (.t (.str (K 1 (lv+1)))),_):=hk1 (lv+1);have n0:=m0 lv;have n1:=m1 (lv+1);clear hk0 hk1 m0 m1 hlv;generalize K 0 lv=A0 at *;generalize K 1 (lv+1)=A1 at *;have s1:binop Tryz.prog .add 9 (.t (.str A0)) (.t (.str [32]))=some (.t (.str (A0++[32]))):=yF (by simp;omega);have s2:binop Tryz.prog .add 9 (.t (.str (A0++[32]))) (.t (.str w))=some (.t (.str (A0++[32]++w))):=yF (by simp;omega);have s3:binop Tryz.prog .add 9 (.t (.str (A0++[32]++w))) (.t (.str [32]))=some (.t (.str (A0++[32]++w++[32]))):=yF (by simp;omega);have s4:binop Tryz.prog .add 9 (.t (.str (A0++[32]++w++[32]))) (.t (.str A1))=some (.t (.str (A0++[32]++w++[32]++A1))):=yF (by simp;omega);refine zK zDg rfl ?_
 (have F_:=xa5;show W CC 2 107 (zA 145) _ ⟨[(0,_),(1,_)],[_,_]⟩ _)
 (repeat' first|refine gA ?_|refine gT ?_ ?_<;>intro hv<;>try cases hv;done|fail)
 (refine aK ?_ ?_)
 ·rfl
 rfl
noncomputable def wgo(T:List Node):List Node→Nat→List (List Nat)→List Nat→List Nat
 |[],_,_,last=>last
 |n::r,i,X,_=>if 65536<(zB6 T X i n).length then [] else wgo T r (i+1) (X.set i (zB6 T X i n)) (zB6 T X i n)
noncomputable def vH(T:List Node):List Nat:=wgo T T 0 (List.replicate T.length []) []
def yEo {T:List Node} {i:Nat} {n:Node} (h:T[i]?=some n) (X:List (List Nat)) (last:List Nat) :
  wgo T (T.drop i) i X last=if 65536<(zB6 T X i n).length then [] else wgo T (T.drop (i+1)) (i+1) (X.set i (zB6 T X i n)) (zB6 T X i n):=by
 obtain⟨hi,h⟩:=List.getElem?_eq_some_iff.1 h;rw[List.drop_eq_getElem_cons hi,h,wgo]
def mk50{n:Nat}(hn:n<4294967296)(nid:Nat):zAt Tryz.prog nid 66 (.t (.int .i64 (n:Int))) (.t (.int .i64 (n:Int)))=some (.val (.hs nid 0),[(nid,.arr 1 0 false ((List.replicate n ([]:List Nat)).map sC))]):=by
 have h1:und Tryz.prog 66=some (.slice 9):=by kernel_rfl
 have h2:zC1 Tryz.prog 9=some [.t (.str [])]:=by kernel_rfl
 have h3:small Tryz.prog 9 n=(true&&decide (n<4294967296)&&true):=by kernel_rfl
 rw[decide_eq_true hn] at h3;have h4:qG (List.replicate n [AV.t (.str [])])=some (List.replicate n [.str []]):=by
  clear h3 hn
  induction n with
  |zero=>rfl
  |succ n ih=>rw[List.replicate_succ,List.replicate_succ,qG,ih];rfl
 unfold zAt;rw[h1]
 show (match zC1 Tryz.prog 9 with|some zero=>if n≤n∧(n=n∨n=0)∧small Tryz.prog 9 n=true then some (Out.val (.hs nid 0),[(nid,zAp zero.length (List.replicate n zero))]) else none|none=>none)=_
 rw[h2];dsimp only;rw[if_pos ⟨Nat.le_refl n,.inl rfl,h3⟩];unfold zAp;rw[List.map_replicate];rw[h4]
 rfl
def wtS(a b:Bool)(T:List Node)(x:Nat×List (List Nat)×List Nat):St :=
 ⟨[(3,.box 0 0),(4,.t (.str x.2.2)),(13,.t (.int .i64 (T.length:Int))),(14,.t (.int .i64 (x.1:Int)))],wr a b T x.2.1⟩
def zRX (a b:Bool) (T:List Node) (hT:T.length≤1000000000) (hP:∀m ∈ T,PNode m) :
  Om CC 88 [.t (.sl a b (T.map Node.c))] []=some (.val (.t (.str (vH T))),[]):=by
 have hml:(T.map Node.c).length=T.length:=List.length_map ..;have hmk:=fun nid=>@mk50 T.length (by omega) nid
 refine zK yDQ rfl ?_
 (have F_:=c5 zF zG zE zD (c5 zI zB xC zO (c5 zL zN zAO zAM (c2 yGn yCN)));show W CC 0 32 (zA 88) _ ⟨[(0,_)],[]⟩ _)
 generalize hl:T.map Node.c=l at *;generalize hE:(List.replicate T.length ([]:List Nat)).map sC=E at *
 (refine gA ?_)
 subst hE;subst hl;clear hmk hml;refine zY (wtS a b T) (fun x=>T.length - x.1) (fun x=>x.1≤T.length∧x.2.1.length=T.length∧(∀s ∈ x.2.1,s.length≤65536)∧wgo T (T.drop x.1) x.1 x.2.1 x.2.2=vH T) (0,List.replicate T.length [],[]) (by simp only[wtS,wr];exact aTd) ⟨Nat.zero_le _,by simp,fun s hs=>by rw[(List.mem_replicate.1 hs).2];exact Nat.zero_le _,rfl⟩ ?_;rintro⟨i,X,last⟩ ⟨hi,hX,hs,hw⟩;dsimp only at hi hX hs hw;simp only[wtS]
 by_cases hi':i<T.length
 ·have hw':IntKind.i64.wrap ((i:Int)+1)=((i+1:Nat):Int):=by rw[wrap64]<;>omega
  have hd:decide ((i:Int)<(T.length:Int))=true:=by simpa using hi'
  obtain⟨n,hn⟩:∃n,T[i]?=some n:=⟨_,List.getElem?_eq_getElem hi'⟩;have hnode:=zZc a b T X i n hn hX hP hs;rw[yEo hn] at hw;unfold wr at hnode ⊢;have l0:((0:Int)≤(i:Int))=True:=by simp
  have l1:((i:Int)<(((X.map sC).length:Nat):Int))=True:=by have:i<X.length:=(by omega);simpa using this
  generalize zB6 T X i n=s at *
  by_cases hq:65536<s.length
  ·rw[if_pos hq] at hw;rw[← hw];have hd2:decide (((s.length:Nat):Int) > 65536)=true:=by simp;omega
   generalize X.map sC=E at *;generalize T.map Node.c=l at *;clear hs hP hw hX hn hi hi' hT
   (refine gA ?_)
   (refine aK ?_ ?_)
   ·rfl
   rfl
  rw[if_neg hq] at hw;have hd2:decide (((s.length:Nat):Int) > 65536)=false:=by simp;omega
  have hag:Hid _:=⟨And.intro hi' (And.intro ((List.length_set ..).trans hX:(X.set i s).length=T.length) (And.intro (fun x (hx:x ∈ X.set i s)=>(by rcases List.mem_or_eq_of_mem_set hx with h|rfl;exact hs x h;omega:x.length≤65536)) hw))⟩
  have hXs:Hid _:=⟨show (X.set i s).map sC=(X.map sC).set i [.str s] from List.map_set⟩
  obtain⟨s0,hs0⟩:∃s0,X[i]?=some s0:=⟨_,List.getElem?_eq_getElem (by omega)⟩;have hSn:nth (X.map sC) i=some [.str s0]:=by rw[yP,List.getElem?_map,hs0];rfl
  generalize X.map sC=E at *;generalize hl:T.map Node.c=l at *;clear hs hP hw hX hn hi hT hs0
  (have x0_:=@qB.eq_1;(refine gA ?_);all_goals clear x0_)
  exact zC (i+1,X.set i s,s) (by dsimp only;omega) hag.h (by simp only[wtS,wr];rw[hl,hXs.h];(have X_:=@qP;exact aTdX))
 have hd:decide ((i:Int)<(T.length:Int))=false:=by simpa using hi'
 rw[List.drop_eq_nil_of_le (by omega),wgo] at hw;rw[← hw];unfold wr;generalize X.map sC=E at *;generalize T.map Node.c=l at *;clear hs hP hw hX hi hi' hT
 (refine gA ?_)
 (refine aK ?_ ?_)
 ·rfl
 rfl
end Go.Ab
