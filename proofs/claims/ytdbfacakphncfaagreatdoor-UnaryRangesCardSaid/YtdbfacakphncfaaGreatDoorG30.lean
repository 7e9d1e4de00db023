/- Lemmas. -/
import Derived.Test.YtdbfacakphncfaaGreatDoorG07
set_option maxRecDepth 1000000
set_option maxHeartbeats 40000000
set_option linter.all false
namespace Go.Ab
open Go.Proofs
attribute [local irreducible] W RW RR
def rrT:Option (List (List Tree))→AV
 |none=>.t (.sl true true [])
 |some _=>.hs 1 0
def rrR:Option (List (List Tree))→Heap
 |none=>[]
 |some E=>[.arr 8 0 false E]
def rrN:Option (List (List Tree))→Nat
 |none=>0
 |some E=>E.length
def rrL(T:Option (List (List Tree))):Prop:=∀E,T=some E→lens 8 E=true
def rr(l:Tree)(i:Nat)(d:Int)(T:Option (List (List Tree)))(e:Int)(b:Nat):Heap:=.box [.t l,.t (.int .i64 (i:Int)),.t (.int .i64 d),rrT T,.t (.int .i64 e),.t (.int .i64 (b:Int))]::rrR T
def xbC:=c5 zF zG zE zD (c5 zC zT zL zQ (c5 zU zR zK zAl (c3 zAk zM zW8)))
def zBH(nl cl:Bool)(L:List Tok)(i:Nat)(d:Int)(T:Option (List (List Tree)))(e:Int)(b:Nat):∃w:List Nat,Om CC 62 [.box 0 0] (rr (.sl nl cl (L.map Tok.c)) i d T e b)=some (.val (.t (.str w)),rr (.sl nl cl (L.map Tok.c)) i d T e b)∧(w=[]∨i<L.length):=by
 by_cases hi:i<L.length
 ·obtain⟨t,ht⟩:∃t,L[i]?=some t:=⟨_,List.getElem?_eq_getElem hi⟩;have hT:=wD ht;have hd:decide ((i:Int)<((L.map Tok.c).length:Int))=true:=by simpa using hi
  generalize L.map Tok.c=l at *;have hi2:Hid _:=⟨hi⟩
  clear hi ht
  (have F_:=xbC)
  rcases T with _|E
  all_goals simp only[rr,rrT,rrR]<;>refine uK zUO rfl ?_<;>(simp only[zP,List.length_cons,List.length_nil,Nat.zero_add,Nat.reduceAdd];show W CC _ 52 (zA 62) _ _ _)<;>(repeat' first|refine gA ?_|refine gT ?_ ?_<;>intro hv<;>try cases hv;done|fail)<;>refine aM ?_<;>exact⟨_,⟨rfl,rfl⟩,.inr hi2.h⟩
 have hd:decide ((i:Int)<((L.map Tok.c).length:Int))=false:=by simp;omega
 generalize L.map Tok.c=l at *;clear hi
 (have F_:=xbC)
 rcases T with _|E
 all_goals simp only[rr,rrT,rrR]<;>refine uK zUO rfl ?_<;>(simp only[zP,List.length_cons,List.length_nil,Nat.zero_add,Nat.reduceAdd];show W CC _ 52 (zA 62) _ _ _)<;>(repeat' first|refine gA ?_|refine gT ?_ ?_<;>intro hv<;>try cases hv;done|fail)<;>refine aM ?_<;>exact⟨_,⟨rfl,rfl⟩,.inl rfl⟩
def xbD:=c5 zF zG zE zD (c5 zC zT zL zQ (c5 zU zR zK zAl (c3 zAk zM zWK)))
def zEo(nl cl:Bool)(L:List Tok)(i:Nat)(d:Int)(T:Option (List (List Tree)))(e:Int)(b:Nat):∃p:Int×Int,Om CC 61 [.box 0 0] (rr (.sl nl cl (L.map Tok.c)) i d T e b)=some (.val (.t (.agg [.int .i64 p.1,.int .i64 p.2])),rr (.sl nl cl (L.map Tok.c)) i d T e b)∧True:=by
 by_cases hi:i<L.length
 ·obtain⟨t,ht⟩:∃t,L[i]?=some t:=⟨_,List.getElem?_eq_getElem hi⟩;have hT:=wD ht;have hd:decide ((i:Int)<((L.map Tok.c).length:Int))=true:=by simpa using hi
  generalize L.map Tok.c=l at *;clear hi ht
  (have F_:=xbD)
  rcases T with _|E
  all_goals simp only[rr,rrT,rrR]<;>refine uK zUb rfl ?_<;>(simp only[zP,List.length_cons,List.length_nil,Nat.zero_add,Nat.reduceAdd];show W CC _ 25 (zA 61) _ _ _)<;>(repeat' first|refine gA ?_|refine gT ?_ ?_<;>intro hv<;>try cases hv;done|fail)<;>refine aM ?_<;>exact⟨(_,_),⟨rfl,rfl⟩,trivial⟩
 have hd:decide ((i:Int)<((L.map Tok.c).length:Int))=false:=by simp;omega
 generalize L.map Tok.c=l at *;clear hi
 (have F_:=xbD)
 rcases T with _|E
 all_goals simp only[rr,rrT,rrR]<;>refine uK zUb rfl ?_<;>(simp only[zP,List.length_cons,List.length_nil,Nat.zero_add,Nat.reduceAdd];show W CC _ 25 (zA 61) _ _ _)<;>(repeat' first|refine gA ?_|refine gT ?_ ?_<;>intro hv<;>try cases hv;done|fail)<;>refine aM ?_<;>exact⟨(_,_),⟨rfl,rfl⟩,trivial⟩
def zL9 {f:FuncId} {fn:Func} {c:Code} {args:List AV} {h:Heap} {l:Tree} {v:AV} {P:Nat→Int→Option (List (List Tree))→Int→Nat→Prop} (hf:nth CC.P.funcs.toList f=some fn) (hb:fn.body=some c)
  (hw:W CC h.length fn.ntmps (CC.keep f) c ⟨zP 0 args,h⟩ (ends CC f fn h.length fun o h'=>∃i d T e b,(o=.val v∧h'=rr l i d T e b)∧P i d T e b)) (hn:Nat.ble args.length fn.ntmps=true:=by kernel_rfl) :
  ∃i d T e b,Om CC f args h=some (.val v,rr l i d T e b)∧P i d T e b:=by
 obtain⟨o,h',h1,i,d,T,e,b,⟨rfl,rfl⟩,h2⟩:=xK hf hb hw hn;exact⟨i,d,T,e,b,h1,h2⟩
def zFi(l:Tree)(i:Nat)(d:Int)(T:Option (List (List Tree)))(e:Int)(b:Nat)(x:Int):∃(e':Int) (b':Nat),Om CC 101 [.box 0 0,.t (.int .i64 x)] (rr l i d T e b)=some (.val (.tup []),rr l i d T e' b')∧(x≠0→e'≠0):=by
 have key:∃i' d' T' e' b',Om CC 101 [.box 0 0,.t (.int .i64 x)] (rr l i d T e b)=some (.val (.tup []),rr l i' d' T' e' b')∧(i'=i∧d'=d∧T'=T∧(x≠0→e'≠0)):=by
  have hw:(e==0)=true∨(e==0)=false:=by cases (e==0)<;>simp
  (have F_:=c5 zF zG zE zD (c5 zC zT zL zQ (c5 zU zR zK zAl (c3 zAk zM yAN))))
  rcases T with _|E
  all_goals simp only[rr,rrT,rrR]<;>rcases hw with hw|hw<;>refine zL9 zZU rfl ?_<;>(simp only[zP,List.length_cons,List.length_nil,Nat.zero_add,Nat.reduceAdd];show W CC _ 20 (zA 101) _ _ _)<;>(repeat' first|refine gA ?_|refine gT ?_ ?_<;>intro hv<;>try cases hv;done|fail)<;>((refine aP ?_))<;>(first|exact⟨i,d,none,_,_,⟨rfl,rfl⟩,rfl,rfl,rfl,by first|exact id|exact fun _=>by simpa using hw⟩|exact⟨i,d,some E,_,_,⟨rfl,rfl⟩,rfl,rfl,rfl,by first|exact id|exact fun _=>by simpa using hw⟩)
 obtain⟨i',d',T',e',b',h,rfl,rfl,rfl,h2⟩:=key;exact⟨e',b',h,h2⟩
def zHP(l:Tree)(i:Nat)(d:Int)(T:Option (List (List Tree)))(e:Int)(b:Nat):∃(d' e':Int) (b':Nat),Om CC 63 [.box 0 0] (rr l i d T e b)=some (.val (.tup []),rr l i d' T e' b')∧True:=by
 have key:∃i' d' T' e' b',Om CC 63 [.box 0 0] (rr l i d T e b)=some (.val (.tup []),rr l i' d' T' e' b')∧(i'=i∧T'=T):=by
  obtain⟨e1,b1,hs,-⟩:=zFi l i d T e b 12
  (have F_:=c5 zF zG zE zD (c5 zC zT zL zQ (c5 zU zR zK zAl (c3 zAk zM (c2 yIj zCZ)))))
  rcases T with _|E
  all_goals simp only[rr,rrT,rrR] at hs ⊢<;>refine zL9 yEh rfl ?_<;>(simp only[zP,List.length_cons,List.length_nil,Nat.zero_add,Nat.reduceAdd];show W CC _ 16 (zA 63) _ _ _)<;>(repeat' first|refine gA ?_|refine gT ?_ ?_<;>intro hv<;>try cases hv;done|fail)<;>((refine aP ?_))<;>(first|exact⟨i,_,none,_,_,⟨rfl,rfl⟩,rfl,rfl⟩|exact⟨i,_,some E,_,_,⟨rfl,rfl⟩,rfl,rfl⟩)
 obtain⟨i',d',T',e',b',h,rfl,rfl⟩:=key;exact⟨d',e',b',h,trivial⟩
def zEb(nl cl:Bool)(L:List Tok)(i:Nat)(d:Int)(T:Option (List (List Tree)))(e:Int)(b:Nat)(w:List Nat)(hw:w≠[])(hi:i≤L.length)(hL:L.length<1000000):∃(i':Nat) (e':Int) (b':Nat),Om CC 104 [.box 0 0,.t (.str w)] (rr (.sl nl cl (L.map Tok.c)) i d T e b)=some (.val (.tup []),rr (.sl nl cl (L.map Tok.c)) i' d T e' b')∧(i≤i'∧i'≤L.length∧(e'=0→i<i')):=by
 have key:∃i' d' T' e' b',Om CC 104 [.box 0 0,.t (.str w)] (rr (.sl nl cl (L.map Tok.c)) i d T e b)=some (.val (.tup []),rr (.sl nl cl (L.map Tok.c)) i' d' T' e' b')∧(d'=d∧T'=T∧i≤i'∧i'≤L.length∧(e'=0→i<i')):=by
  obtain⟨x,hx,hlt⟩:=zBH nl cl L i d T e b;obtain⟨e1,b1,hs,he1⟩:=zFi (.sl nl cl (L.map Tok.c)) i d T e b 4;have he1:=he1 (by decide);have he2:(e1==0)=false:=by simpa using he1
  have hw2:=wI64 i (by omega);have hq:∃q,beqL x w=q∧(q=true→i<L.length):=⟨_,rfl,fun h=>by
   rcases hlt with rfl|h'
   ·rw[vV,decide_eq_true_eq] at h;exact absurd h.symm hw
   exact h'⟩
  obtain⟨q,hq1,hq2⟩:=hq;have hz:Hid _:=⟨And.intro hi (And.intro hq2 he1)⟩
  generalize Tree.sl nl cl (L.map Tok.c)=l at *;clear hlt hq2 he1 hi hw hL;have hE:(e==0)=true∨(e==0)=false:=by cases (e==0)<;>simp
  have hz2:Hid _:=⟨(⟨fun h h2=>by simp [h2] at h⟩:Hid ((e==0)=false→¬ e=0))⟩
  (have F_:=c5 zF zG zE zD (c5 zC zT zL zQ (c5 zU zR zK zAl (c5 zAk zM yBw zCZ zFP))))
  rcases T with _|E
  all_goals simp only[rr,rrT,rrR] at hx hs ⊢<;>rcases hE with hE|hE<;>cases q<;>refine zL9 zX7 rfl ?_<;>(simp only[zP,List.length_cons,List.length_nil,Nat.zero_add,Nat.reduceAdd];show W CC _ 29 (zA 104) _ _ _)<;>(repeat' first|refine gA ?_|refine gT ?_ ?_<;>intro hv<;>try cases hv;done|fail)<;>((refine aP ?_))<;>(first|exact⟨_,d,none,_,_,⟨rfl,rfl⟩,rfl,rfl,Nat.le_refl _,hz.h.1,fun h=>absurd h (by first|exact hz.h.2.2|exact hz2.h.h hE)⟩|exact⟨_,d,some E,_,_,⟨rfl,rfl⟩,rfl,rfl,Nat.le_refl _,hz.h.1,fun h=>absurd h (by first|exact hz.h.2.2|exact hz2.h.h hE)⟩|exact⟨_,d,none,_,_,⟨rfl,rfl⟩,rfl,rfl,Nat.le_succ _,hz.h.2.1 rfl,fun _=>Nat.lt_succ_self _⟩|exact⟨_,d,some E,_,_,⟨rfl,rfl⟩,rfl,rfl,Nat.le_succ _,hz.h.2.1 rfl,fun _=>Nat.lt_succ_self _⟩)
 obtain⟨i',d',T',e',b',h,rfl,rfl,h2⟩:=key;exact⟨i',e',b',h,h2⟩
def zBa {f:FuncId} {fn:Func} {c:Code} {args:List AV} {h:Heap} {l:Tree} {P:Nat→Int→Option (List (List Tree))→Int→Nat→Prop} (hf:nth CC.P.funcs.toList f=some fn) (hb:fn.body=some c)
  (hw:W CC h.length fn.ntmps (CC.keep f) c ⟨zP 0 args,h⟩ (ends CC f fn h.length fun o h'=>∃a i d T e b,(o=.val (.t (.int .i64 a))∧h'=rr l i d T e b)∧P i d T e b)) (hn:Nat.ble args.length fn.ntmps=true:=by kernel_rfl) :
  ∃a i d T e b,Om CC f args h=some (.val (.t (.int .i64 a)),rr l i d T e b)∧P i d T e b:=by
 obtain⟨o,h',h1,a,i,d,T,e,b,⟨rfl,rfl⟩,h2⟩:=xK hf hb hw hn;exact⟨a,i,d,T,e,b,h1,h2⟩
def zJy (l:Tree) (i:Nat) (d:Int) (T:Option (List (List Tree))) (e:Int) (b:Nat) (op k n:Int) (s name:List Nat) (x y:Bool) (ks:List (List Tree)) (line col:Int) (hT:rrN T<4294967295) (hl:rrL T) :
  ∃(a:Int) (E:List (List Tree)),Om CC 64 [.box 0 0,.t (.agg [.int .u8 op,.int .u8 k,.int .i64 n,.str s,.str name,.sl x y ks,.int .i64 line,.int .i64 col])] (rr l i d T e b)=some (.val (.t (.int .i64 a)),rr l i d (some E) e b)∧(E.length=rrN T+1∧lens 8 E=true):=by
 have key:∃a i' d' T' e' b',Om CC 64 [.box 0 0,.t (.agg [.int .u8 op,.int .u8 k,.int .i64 n,.str s,.str name,.sl x y ks,.int .i64 line,.int .i64 col])] (rr l i d T e b)=some (.val (.t (.int .i64 a)),rr l i' d' T' e' b')∧(i'=i∧d'=d∧e'=e∧b'=b∧∃E,T'=some E∧E.length=rrN T+1∧lens 8 E=true):=by
  (have F_:=c5 zF zG zE zD (c5 zC zT zL zQ (c5 zU zR zK zAl (c3 zAk zM yH1))))
  rcases T with _|E
  ·simp only[rr,rrT,rrR];refine zBa zRW rfl ?_
   (simp only[zP,List.length_cons,List.length_nil,Nat.zero_add,Nat.reduceAdd];show W CC _ 21 (zA 64) _ _ _)
   (repeat' first|refine gA ?_|refine gT ?_ ?_<;>intro hv<;>try cases hv;done|fail)
   all_goals refine aM ?_<;>exact⟨_,i,d,some _,e,b,⟨rfl,rfl⟩,rfl,rfl,rfl,rfl,_,rfl,rfl,rfl⟩
  have hlen:lens 8 E=true:=hl E rfl;simp only[rrN] at hT ⊢;have hsm:decide (E.length+1<4294967296)=true:=by(rw[decide_eq_true_eq];omega)
  have hlE:∀x:List Tree,x.length=8→(E++[x]).length=E.length+1∧lens 8 (E++[x])=true:=fun x hx=>⟨by simp,by unfold lens at *;rw[List.all_append,hlen];simp [hx]⟩
  have hl2:Hid _:=⟨hlE⟩
  clear hT hl hlE;simp only[rr,rrT,rrR];refine zBa zRW rfl ?_
  (simp only[zP,List.length_cons,List.length_nil,Nat.zero_add,Nat.reduceAdd];show W CC _ 21 (zA 64) _ _ _)
  (repeat' first|refine gA ?_|refine gT ?_ ?_<;>intro hv<;>try cases hv;done|fail)
  all_goals refine aM ?_<;>exact⟨_,i,d,some _,e,b,⟨rfl,rfl⟩,rfl,rfl,rfl,rfl,_,rfl,(hl2.h _ rfl).1,(hl2.h _ rfl).2⟩
 obtain⟨a,i',d',T',e',b',h,rfl,rfl,rfl,rfl,E,rfl,h2⟩:=key;exact⟨a,E,h,h2⟩
def zTH(w:List Nat):∃x:Int×Int×Int,Om CC 102 [.t (.str w)] []=some (.val (.tup [.t (.int .u8 x.1),.t (.int .i64 x.2.1),.t (.int .i64 x.2.2)]),[])∧True:=by
 refine zH zZ8 rfl ?_
 (have F_:=c2 zD yFI;show W CC 0 24 (zA 102) _ ⟨[(0,_)],[]⟩ _)
 (repeat' first|refine gA ?_|refine gT ?_ ?_<;>intro hv<;>try cases hv;done|fail)
 all_goals refine aM ?_<;>exact⟨(_,_,_),⟨rfl,rfl⟩,trivial⟩
def yHB:(0≤(0:Int)∧(0:Int)<((7:Nat):Int))=True:=by decide
def yIm:(0≤(1:Int)∧(1:Int)<((7:Nat):Int))=True:=by decide
def yIl:(0≤(2:Int)∧(2:Int)<((7:Nat):Int))=True:=by decide
def yIr:(0≤(3:Int)∧(3:Int)<((7:Nat):Int))=True:=by decide
def yIV:(0≤(4:Int)∧(4:Int)<((7:Nat):Int))=True:=by decide
def yH2:(0≤(5:Int)∧(5:Int)<((7:Nat):Int))=True:=by decide
def yHg:(0≤(6:Int)∧(6:Int)<((7:Nat):Int))=True:=by decide
def yH0:(0≤(0:Int)∧(0:Int)<((1:Nat):Int))=True:=by decide
def yIW:(0≤(0:Int)∧(0:Int)<((6:Nat):Int))=True:=by decide
def yIa:(0≤(1:Int)∧(1:Int)<((6:Nat):Int))=True:=by decide
def yIx:(0≤(2:Int)∧(2:Int)<((6:Nat):Int))=True:=by decide
def yIs:(0≤(3:Int)∧(3:Int)<((6:Nat):Int))=True:=by decide
def yHj:(0≤(4:Int)∧(4:Int)<((6:Nat):Int))=True:=by decide
def yHO:(0≤(5:Int)∧(5:Int)<((6:Nat):Int))=True:=by decide
def zKP:(0≤(0:Int)∧(0:Int)<((2:Nat):Int))=True:=by decide
def zK6:(0≤(1:Int)∧(1:Int)<((2:Nat):Int))=True:=by decide
def zOd:Int.toNat 0=0:=rfl
def zON:Int.toNat 1=1:=rfl
def yJs:Int.toNat 2=2:=rfl
def yJN:Int.toNat 3=3:=rfl
def yKp:Int.toNat 4=4:=rfl
def yKy:Int.toNat 5=5:=rfl
def yJ7:Int.toNat 6=6:=rfl
def yHy:decide ((0:Int)<((1:Nat):Int))=true:=rfl
def yJg:decide ((1:Int)<((1:Nat):Int))=false:=rfl
def yHt:decide ((0:Int)<((6:Nat):Int))=true:=rfl
def yIF:decide ((1:Int)<((6:Nat):Int))=true:=rfl
def yI9:decide ((2:Int)<((6:Nat):Int))=true:=rfl
def yHd:decide ((3:Int)<((6:Nat):Int))=true:=rfl
def yIH:decide ((4:Int)<((6:Nat):Int))=true:=rfl
def yHT:decide ((5:Int)<((6:Nat):Int))=true:=rfl
def yIR:decide ((6:Int)<((6:Nat):Int))=false:=rfl
def yIQ:decide ((0:Int)<((2:Nat):Int))=true:=rfl
def yIE:decide ((1:Int)<((2:Nat):Int))=true:=rfl
def yI3:decide ((2:Int)<((2:Nat):Int))=false:=rfl
def yJh:decide ((0:Int)<((0:Nat):Int))=false:=rfl
def yJF{α:Type}{a:α}{r:List α}:idx (a::r) 0=some a:=rfl
def yJy{α:Type}{a b:α}{r:List α}:idx (a::b::r) 1=some b:=rfl
def yKO{α:Type}{a b c:α}{r:List α}:idx (a::b::c::r) 2=some c:=rfl
def yJ2{α:Type}{a b c d:α}{r:List α}:idx (a::b::c::d::r) 3=some d:=rfl
def yKX{α:Type}{a b c d e:α}{r:List α}:idx (a::b::c::d::e::r) 4=some e:=rfl
def yJP{α:Type}{a b c d e f:α}{r:List α}:idx (a::b::c::d::e::f::r) 5=some f:=rfl
def yJY:IntKind.i64.wrap (0+1)=1:=rfl
def yJQ:IntKind.i64.wrap (1+1)=2:=rfl
def yKg:IntKind.i64.wrap (2+1)=3:=rfl
def yKm:IntKind.i64.wrap (3+1)=4:=rfl
def yKJ:IntKind.i64.wrap (4+1)=5:=rfl
def yKa:IntKind.i64.wrap (5+1)=6:=rfl
def zN2(lev:Nat)(hl:lev<7):Om CC 65 [.t (.int .i64 (lev:Int)),.t (.str [])] []=some (.val (.t (.int .u8 0)),[]):=by
 match lev,hl with
 |0,_=>exact wK (n:=60) (by kernel_rfl)
 |1,_=>exact wK (n:=60) (by kernel_rfl)
 |2,_=>exact wK (n:=60) (by kernel_rfl)
 |3,_=>exact wK (n:=60) (by kernel_rfl)
 |4,_=>exact wK (n:=60) (by kernel_rfl)
 |5,_=>exact wK (n:=60) (by kernel_rfl)
 |6,_=>exact wK (n:=60) (by kernel_rfl)
def zTC(lev:Nat)(w:List Nat)(hl:lev<7):∃o:Int,Om CC 65 [.t (.int .i64 (lev:Int)),.t (.str w)] []=some (.val (.t (.int .u8 o)),[])∧True:=by
 refine zH yCb rfl ?_;have hz:∃ws:List (List Nat),∃f,True:=⟨[],0,trivial⟩
 clear hz;rcases(by omega:lev=0∨lev=1∨lev=2∨lev=3∨lev=4∨lev=5∨lev=6) with rfl|rfl|rfl|rfl|rfl|rfl|rfl
 all_goals (first|rw[show (((0:Nat):Int))=0 from rfl]|rw[show (((1:Nat):Int))=1 from rfl]|rw[show (((2:Nat):Int))=2 from rfl]|rw[show (((3:Nat):Int))=3 from rfl]|rw[show (((4:Nat):Int))=4 from rfl]|rw[show (((5:Nat):Int))=5 from rfl]|rw[show (((6:Nat):Int))=6 from rfl])<;>(have F_:=c5 zG zE zD uX (c5 zKF yFq yHG @yJY (c5 @yJQ @yKg @yKm @yKJ (c5 @yKa @yJF @yJy @yKO (c5 @yJ2 @yKX @yJP @yHB (c5 @yIm @yIl @yIr @yIV (c5 @yH2 @yHg @yH0 @yIW (c5 @yIa @yIx @yIs @yHj (c5 @yHO @zKP @zK6 @zOd (c5 @zON @yJs @yJN @yKp (c5 @yKy @yJ7 @yHy @yJg (c5 @yHt @yIF @yI9 @yHd (c5 @yIH @yHT @yIR @yIQ (c3 @yIE @yI3 @yJh)))))))))))));show W CC 0 40 (zA 65) _ ⟨[(0,_),(1,_)],[]⟩ _)<;>(repeat' first|refine gA ?_|refine gT ?_ ?_<;>intro hv<;>try cases hv;done|fail)<;>(repeat' (first|(refine aM ?_;exact⟨_,⟨rfl,rfl⟩,trivial⟩)|((refine aK ?_);(repeat' first|refine gA ?_|refine gT ?_ ?_<;>intro hv<;>try cases hv;done|fail))))
def zVc(lev:Nat)(w:List Nat)(hl:lev<7):∃o:Int,Om CC 65 [.t (.int .i64 (lev:Int)),.t (.str w)] []=some (.val (.t (.int .u8 o)),[])∧(w=[]→o=0):=by
 cases w with
 |nil=>exact⟨0,zN2 lev hl,fun _=>rfl⟩
 |cons c r=>obtain⟨o,h,-⟩:=zTC lev (c::r) hl;exact⟨o,h,fun h=>by cases h⟩
end Go.Ab
