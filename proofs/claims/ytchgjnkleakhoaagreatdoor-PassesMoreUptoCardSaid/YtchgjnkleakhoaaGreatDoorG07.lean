/- Lemmas. -/
import Derived.Test.YtchgjnkleakhoaaGreatDoorG06
set_option maxRecDepth 1000000
set_option maxHeartbeats 40000000
set_option linter.all false
namespace Go.Ab
open Go.Proofs
attribute [local irreducible] W RW RR
def rdT:List Node→AV
 |[]=>.t (.sl true true [])
 |_::_=>.hs 1 0
def rdR:List Node→Heap
 |[]=>[]
 |t::r=>[.arr 8 0 false ((t::r).map Node.c)]
def rd(l:Tree)(i d:Nat)(T:List Node):Heap:=.box [.t l,.t (.int .i64 (i:Int)),.t (.int .i64 (d:Int)),rdT T]::rdR T
def vE{L:List Tok}{i:Nat}{t:Tok}(h:L[i]?=some t):(L.map Tok.c)[i]?=some [.int .u8 t.k,.str t.s,.int .u8 t.v.k,.int .i64 t.v.n,.str t.v.s,.int .i64 t.line,.int .i64 t.col]:=by
 rw[List.getElem?_map,h];rfl
def zCb(a b:List Nat):(a==b)=decide (a=b):=by cases h:(a==b)<;>simp_all
def xaB:=c5 zF zG zE zD (c5 zI zB zO zL (c5 zN zX zS yJ (c2 yK zKQ)))
def kL(nl cl:Bool)(L:List Tok)(i d:Nat)(T:List Node)(w:List Nat) :
  Om CC 280 [.box 0 0,.t (.str w)] (rd (.sl nl cl (L.map Tok.c)) i d T)=some (.val (.t (.bool (isW L i w))),rd (.sl nl cl (L.map Tok.c)) i d T):=by
 by_cases hi:i<L.length
 ·obtain⟨t,ht⟩:∃t,L[i]?=some t:=⟨_,List.getElem?_eq_getElem hi⟩;have hT:=vE ht;have hd:decide ((i:Int)<((L.map Tok.c).length:Int))=true:=by simpa using hi
  have hW:isW L i w=(beqL t.s w&&(t.k==1||t.k==7)):=by unfold isW;rw[ht];dsimp only;rw[Bool.and_comm,vC,← zCb]
  rw[hW];generalize L.map Tok.c=l at *;generalize hb0:beqL t.s w=b0 at *;generalize hb1:(t.k==1)=b1 at *;generalize hb2:(t.k==7)=b2 at *;cases T with
  |nil =>
   simp only[rd,rdT,rdR];refine zK zI3 rfl ?_
   (have F_:=xaB;show W CC 1 58 (zA 280) _ ⟨[(0,_),(1,_)],[_]⟩ _)
   (repeat' first|refine gA ?_|refine gT ?_ ?_<;>intro hv|fail)
   all_goals refine aK ?_ ?_<;>(first|rfl|(clear F_;simp_all;done))
  |cons t0 T0 =>
   simp only[rd,rdT,rdR];generalize (t0::T0).map Node.c=E;refine zK zI3 rfl ?_
   (have F_:=xaB;show W CC 2 58 (zA 280) _ ⟨[(0,_),(1,_)],[_,_]⟩ _)
   (repeat' first|refine gA ?_|refine gT ?_ ?_<;>intro hv|fail)
   all_goals refine aK ?_ ?_<;>(first|rfl|(clear F_;simp_all;done))
 have hd:decide ((i:Int)<((L.map Tok.c).length:Int))=false:=by simp;omega
 have hW:isW L i w=false:=by unfold isW;rw[List.getElem?_eq_none (by omega)]
 rw[hW];generalize L.map Tok.c=l at *;cases T with
 |nil =>
  simp only[rd,rdT,rdR];refine zK zI3 rfl ?_
  (have F_:=xaB;show W CC 1 58 (zA 280) _ ⟨[(0,_),(1,_)],[_]⟩ _)
  (refine gA ?_)
  all_goals refine aK ?_ ?_<;>(first|rfl|(clear F_;simp_all;done))
 |cons t0 T0 =>
  simp only[rd,rdT,rdR];generalize (t0::T0).map Node.c=E;refine zK zI3 rfl ?_
  (have F_:=xaB;show W CC 2 58 (zA 280) _ ⟨[(0,_),(1,_)],[_,_]⟩ _)
  (refine gA ?_)
  all_goals refine aK ?_ ?_<;>(first|rfl|(clear F_;simp_all;done))
def yZ(e:Int):Tree:=.ifc 271 (.int .i64 e)
def zXy(C:Cfg)(f:FuncId)(fn:Func)(m:Nat)(v':AV)(h':Heap):Ex→St→Prop
 |.pan v,st=>yI fn.ntmps st.T=some []∧yU C f m v st.h=some (v',h')
 |_,_=>False
def zCW {C:Cfg} {f:FuncId} {fn:Func} {c:Code} {args:List AV} {h:Heap} {v':AV} {h':Heap} (hf:nth C.P.funcs.toList f=some fn) (hb:fn.body=some c)
  (hw:W C h.length fn.ntmps (C.keep f) c ⟨zV 0 args,h⟩ (zXy C f fn h.length v' h')) (hn:Nat.ble args.length fn.ntmps=true:=by kernel_rfl):Om C f args h=some (.pan v',h'):=by
 obtain⟨o,h1,h2,rfl,rfl⟩:=xU (R:=fun o h1=>o=.pan v'∧h1=h') hf hb (hw.mono fun e st hq=>by
  cases e with
  |normal=>exact hq.elim
  |ret=>exact hq.elim
  |exit id=>exact hq.elim
  |pan v=>obtain⟨h0,h1⟩:=hq;exact⟨h0,v',h',h1,rfl,rfl⟩) hn
 exact h2
section
variable {C:Cfg} {f:FuncId} {fn:Func} {m:Nat} {st:St} {v v' w:AV} {h h':Heap}
theorem aLp2 (h3:w=v') (h4:h=h') (h2:yU C f m v st.h=some (w,h):=by(first|exact qD _ _ _ _|(simp only[yU,jV,qO,yO,view,elems,xB,patch,put1,catMap,canon,reach,wQ,refs,vY,depth,renL,ren,renO,sub,sub1,upto,mem,place,fresh,cond_true,Ab.get,nth,List.map,List.take,List.length_cons,List.length_nil,List.append_nil,List.nil_append,List.cons_append,Bool.and_true,vI,decide_true,decide_false,reduceIte,Nat.reduceEqDiff,Nat.reduceAdd,Nat.zero_add,Nat.beq,mkAgg,trees,if_true,F_]<;>exact rfl)|kernel_rfl))
  (h0:yI fn.ntmps st.T=some []:=by kernel_rfl):zXy C f fn m v' h' (.pan v) st:=⟨h0,by rw[h2,h3,h4]⟩
theorem aLn2 (h3:w=v') (h4:h=h') (h1:results C.P fn st=some v:=by(simp only[zAm,results,qQ,zA5,Ab.get,Nat.beq,load,loadCells,nth,cut,mkAgg,trees,Option.map_some,List.map_cons,List.map_nil,List.length_cons,List.length_nil,List.take,List.drop,Nat.zero_add,Nat.add_zero,Nat.reduceAdd,Nat.reduceLeDiff,if_true,F_, *];exact rfl))
  (h2:yU C f m v st.h=some (w,h):=by(first|exact qD _ _ _ _|exact jS _ _ _ _ _|exact jQ _ _ _ _ _ _|(simp only[yU,jV,qO,yO,view,elems,xB,patch,put1,catMap,canon,reach,wQ,refs,vY,depth,renL,ren,renO,sub,sub1,upto,mem,place,fresh,cond_true,Ab.get,nth,List.map,List.take,List.length_cons,List.length_nil,List.append_nil,List.nil_append,List.cons_append,Bool.and_true,vI,decide_true,decide_false,reduceIte,Nat.reduceEqDiff,Nat.reduceAdd,Nat.zero_add,Nat.beq,mkAgg,trees,if_true,F_]<;>exact rfl)|kernel_rfl))
  (h0:yI fn.ntmps st.T=some []:=by kernel_rfl):Ends' C f fn m v' h' .normal st:=⟨h0,v,h1,by rw[h2,h3,h4]⟩
end
def xaC:=c5 zF zG zE zD (c5 zI zB zO zL (c5 zN zX zS yJ (c3 yK wP zKY)))
def zD3(l:Tree)(i d:Nat)(T:List Node)(hd:d<12):Om CC 281 [.box 0 0] (rd l i d T)=some (.val (.tup []),rd l i (d+1) T):=by
 have h1:((d:Int)==12)=false:=by simp;omega
 have h2:=wI64 d (by omega);cases T with
 |nil =>
  simp only[rd,rdT,rdR] at *;refine zK zJe rfl ?_
  (have F_:=xaC;show W CC 1 15 (zA 281) _ ⟨[(0,_)],[_]⟩ _)
  (refine gA ?_)
  all_goals ((refine aLn2 ?_ ?_))<;>(first|rfl|(clear F_;simp_all;done))
 |cons t0 T0 =>
  simp only[rd,rdT,rdR] at *;generalize (t0::T0).map Node.c=E at *;refine zK zJe rfl ?_
  (have F_:=xaC;show W CC 2 15 (zA 281) _ ⟨[(0,_)],[_,_]⟩ _)
  (refine gA ?_)
  all_goals ((refine aLn2 ?_ ?_))<;>(first|rfl|(clear F_;simp_all;done))
def zJ1(l:Tree)(i:Nat)(T:List Node):Om CC 281 [.box 0 0] (rd l i 12 T)=some (.pan (.t (yZ 12)),rd l i 12 T):=by
 have h1:(((12:Nat):Int)==12)=true:=rfl;cases T with
 |nil =>
  simp only[rd,rdT,rdR] at *;refine zCW zJe rfl ?_
  (have F_:=xaC;show W CC 1 15 (zA 281) _ ⟨[(0,_)],[_]⟩ _)
  (refine gA ?_)
  all_goals ((refine aLp2 ?_ ?_))<;>(first|rfl|(clear F_;simp_all;done))
 |cons t0 T0 =>
  simp only[rd,rdT,rdR] at *;generalize (t0::T0).map Node.c=E at *;refine zCW zJe rfl ?_
  (have F_:=xaC;show W CC 2 15 (zA 281) _ ⟨[(0,_)],[_,_]⟩ _)
  (refine gA ?_)
  all_goals ((refine aLp2 ?_ ?_))<;>(first|rfl|(clear F_;simp_all;done))
def xaD:=c5 zF zG zQ zE (c5 zD zI zB zO (c5 zL zN zX zS (c5 yJ yK wP zK6 wY)))
def zDZ (nl cl:Bool) (L:List Tok) (i d:Nat) (T:List Node) (w:List Nat) (hi:i<9223372036854775807) (hw:isW L i w=true) :
  Om CC 282 [.box 0 0,.t (.str w)] (rd (.sl nl cl (L.map Tok.c)) i d T)=some (.val (.tup []),rd (.sl nl cl (L.map Tok.c)) (i+1) d T):=by
 have h1:=kL nl cl L i d T w;rw[hw] at h1;clear hw;have h2:=wI64 i (by omega);generalize L.map Tok.c=l at *;cases T with
 |nil =>
  simp only[rd,rdT,rdR] at *;refine zK zI5 rfl ?_
  (have F_:=xaD;show W CC 1 16 (zA 282) _ ⟨[(0,_),(1,_)],[_]⟩ _)
  (refine gA ?_)
  all_goals ((refine aLn2 ?_ ?_))<;>(first|rfl|(clear F_;simp_all;done))
 |cons t0 T0 =>
  simp only[rd,rdT,rdR] at *;generalize (t0::T0).map Node.c=E at *;refine zK zI5 rfl ?_
  (have F_:=xaD;show W CC 2 16 (zA 282) _ ⟨[(0,_),(1,_)],[_,_]⟩ _)
  (refine gA ?_)
  all_goals ((refine aLn2 ?_ ?_))<;>(first|rfl|(clear F_;simp_all;done))
def zHw (nl cl:Bool) (L:List Tok) (i d:Nat) (T:List Node) (w:List Nat) (hw:isW L i w=false) :
  Om CC 282 [.box 0 0,.t (.str w)] (rd (.sl nl cl (L.map Tok.c)) i d T)=some (.pan (.t (yZ 4)),rd (.sl nl cl (L.map Tok.c)) i d T):=by
 have h1:=kL nl cl L i d T w;rw[hw] at h1;clear hw;generalize L.map Tok.c=l at *;cases T with
 |nil =>
  simp only[rd,rdT,rdR] at *;refine zCW zI5 rfl ?_
  (have F_:=xaD;show W CC 1 16 (zA 282) _ ⟨[(0,_),(1,_)],[_]⟩ _)
  (refine gA ?_)
  all_goals ((refine aLp2 ?_ ?_))<;>(first|rfl|(clear F_;simp_all;done))
 |cons t0 T0 =>
  simp only[rd,rdT,rdR] at *;generalize (t0::T0).map Node.c=E at *;refine zCW zI5 rfl ?_
  (have F_:=xaD;show W CC 2 16 (zA 282) _ ⟨[(0,_),(1,_)],[_,_]⟩ _)
  (refine gA ?_)
  all_goals ((refine aLp2 ?_ ?_))<;>(first|rfl|(clear F_;simp_all;done))
def xaE:=c5 zF zG zE zD (c5 zI zB zO zL (c5 zN zX zS yJ (c2 yK zLO)))
def zFL (nl cl:Bool) (L:List Tok) (i d:Nat) (T:List Node) :
  Om CC 309 [.box 0 0] (rd (.sl nl cl (L.map Tok.c)) i d T)=some (.val (.t (.agg [.int .i64 (plW L i).1,.int .i64 (plW L i).2])),rd (.sl nl cl (L.map Tok.c)) i d T):=by
 by_cases hi:i<L.length
 ·obtain⟨t,ht⟩:∃t,L[i]?=some t:=⟨_,List.getElem?_eq_getElem hi⟩;have hT:=vE ht;have hd:decide ((i:Int)<((L.map Tok.c).length:Int))=true:=by simpa using hi
  have hP:plW L i=(t.line,t.col):=by unfold plW;rw[ht]
  rw[hP];generalize L.map Tok.c=l at *;cases T with
  |nil =>
   simp only[rd,rdT,rdR] at *;refine zK zJa rfl ?_
   (have F_:=xaE;show W CC 1 25 (zA 309) _ ⟨[(0,_)],[_]⟩ _)
   (refine gA ?_)
   all_goals refine aK ?_ ?_<;>(first|rfl|(clear F_;simp_all;done))
  |cons t0 T0 =>
   simp only[rd,rdT,rdR] at *;generalize (t0::T0).map Node.c=E at *;refine zK zJa rfl ?_
   (have F_:=xaE;show W CC 2 25 (zA 309) _ ⟨[(0,_)],[_,_]⟩ _)
   (refine gA ?_)
   all_goals refine aK ?_ ?_<;>(first|rfl|(clear F_;simp_all;done))
 have hd:decide ((i:Int)<((L.map Tok.c).length:Int))=false:=by simp;omega
 have hP:plW L i=(0,0):=by unfold plW;rw[List.getElem?_eq_none (by omega)]
 rw[hP];generalize L.map Tok.c=l at *;cases T with
 |nil =>
  simp only[rd,rdT,rdR] at *;refine zK zJa rfl ?_
  (have F_:=xaE;show W CC 1 25 (zA 309) _ ⟨[(0,_)],[_]⟩ _)
  (refine gA ?_)
  all_goals refine aK ?_ ?_<;>(first|rfl|(clear F_;simp_all;done))
 |cons t0 T0 =>
  simp only[rd,rdT,rdR] at *;generalize (t0::T0).map Node.c=E at *;refine zK zJa rfl ?_
  (have F_:=xaE;show W CC 2 25 (zA 309) _ ⟨[(0,_)],[_,_]⟩ _)
  (refine gA ?_)
  all_goals refine aK ?_ ?_<;>(first|rfl|(clear F_;simp_all;done))
def xaF:=c5 zF zG zE zD (c5 zI zB zO zL (c5 zN zX zS yJ (c2 yK zTx)))
def zB1 (l:Tree) (i d:Nat) (T:List Node) (op k n:Int) (s name:List Nat) (k0:Tree) (kids:Sl Int) (line col:Int) (hT:T.length<4294967295) :
  Om CC 283 [.box 0 0,.t (.agg [.int .u8 op,.int .u8 k,.int .i64 n,.str s,.str name,k0,.int .i64 line,.int .i64 col]),.t (kids.t intC)] (rd l i d T)
   = some (.val (.t (.int .i64 (T.length:Nat))),rd l i d (T++[⟨op,⟨k,n,s⟩,name,kids,line,col⟩])):=by
 obtain⟨knl,kcl,kl⟩:=kids
 show Om CC _ [.box 0 0,_,.t (.sl knl kcl (kl.map intC))] _=_
 cases T with
 |nil =>
  simp only[rd,rdT,rdR,List.nil_append];have hw:IntKind.i64.wrap (((1:Nat):Int) - 1)=0:=rfl;generalize hk:kl.map intC=ks at *;refine zK zQV rfl ?_
  (have F_:=xaF;show W CC 1 25 (zA 283) _ ⟨[(0,_),(1,_),(2,_)],[_]⟩ _)
  (refine gA ?_)
  all_goals refine aK ?_ ?_<;>(first|rfl|(subst hk;rfl)|(clear F_;simp_all;done))
 |cons t0 T0 =>
  simp only[rd,rdT,rdR,List.cons_append];have e1:((t0::(T0++[⟨op,⟨k,n,s⟩,name,⟨knl,kcl,kl⟩,line,col⟩])).map Node.c)=(t0::T0).map Node.c++[[.int .u8 op,.int .u8 k,.int .i64 n,.str s,.str name,(.sl knl kcl (kl.map intC)),.int .i64 line,.int .i64 col]]:=by
   rw[← List.cons_append,List.map_append];rfl
  rw[e1];have hl:(t0::T0).length=((t0::T0).map Node.c).length:=by rw[List.length_map]
  have hlen:lens 8 ((t0::T0).map Node.c)=true:=by unfold lens;rw[List.all_map];exact List.all_eq_true.2 fun x _=>rfl
  rw[hl] at hT ⊢;have hsm:decide (((t0::T0).map Node.c).length+1<4294967296)=true:=by(rw[decide_eq_true_eq];omega)
  generalize (t0::T0).map Node.c=E at *;have hw:IntKind.i64.wrap (((E.length+1:Nat):Int) - 1)=(E.length:Int):=by rw[wrap64]<;>omega
  generalize hk:kl.map intC=ks at *;refine zK zQV rfl ?_
  (have F_:=xaF;show W CC 2 25 (zA 283) _ ⟨[(0,_),(1,_),(2,_)],[_,_]⟩ _)
  (refine gA ?_)
  all_goals refine aK ?_ ?_<;>(first|rfl|(clear F_;simp_all;done))
def opsC(o:List Nat×Int):List Tree:=[.str o.1,.int .u8 o.2]
def xaG:=c5 zF zG zE zD (c5 zI zB zO zL (c5 zN zX zS yJ (c5 yK zDn zDH zUA wY)))
def zTQ (nl cl:Bool) (L:List Tok) (i d:Nat) (T:List Node) (x y:Bool) (os:List (List Nat×Int)) (ho:os.length<9223372036854775807) :
  Om CC 310 [.box 0 0,.t (.sl x y (os.map opsC))] (rd (.sl nl cl (L.map Tok.c)) i d T)=some (.val (.t (.int .u8 (yG L i os))),rd (.sl nl cl (L.map Tok.c)) i d T):=by
 have his:=fun w=>kL nl cl L i d T w
 have hol:os.length=(os.map opsC).length:=by rw[List.length_map]
 have hE:∀j,(os.map opsC)[j]?=os[j]?.map opsC:=fun j=>List.getElem?_map
 generalize os.map opsC=E at *;generalize hr:yG L i os=r;cases T with
 |nil =>
  simp only[rd,rdT,rdR] at *
  skip
  generalize hl:Tree.sl nl cl (L.map Tok.c)=l at *;refine zK zQl rfl ?_
  (have F_:=xaG;show W CC 1 20 (zA 310) _ ⟨[(0,_),(1,_)],[_]⟩ _)
  (refine gA ?_)
  refine zY (α:=Nat) (fun j=>⟨[(0,.box 0 0),(7,.t (.sl x y E)),(8,.t (.int .i64 (E.length:Int))),(9,.t (.int .i64 (j:Int)))],[.box [.t l,.t (.int .i64 (i:Int)),.t (.int .i64 (d:Int)),.t (.sl true true [])]]⟩) (fun j=>os.length - j)
   (fun j=>j≤os.length∧r=yG L i (os.drop j)) 0 (by exact aTd) ⟨Nat.zero_le _,hr.symm⟩ ?_
  rintro j ⟨hj,hI⟩
  try dsimp only at hj hI
  by_cases hj':j<os.length
  ·have hd:decide ((j:Int)<(E.length:Int))=true:=by rw[← hol];simpa using hj'
   have hEj:E[j]?=some [.str os[j].1,.int .u8 os[j].2]:=by rw[hE,List.getElem?_eq_getElem hj'];rfl
   have hX:yG L i (os.drop j)=if isW L i os[j].1 then os[j].2 else yG L i (os.drop (j+1)):=by rw[List.drop_eq_getElem_cons hj',yG]
   have hw:=wI64 j (by omega);generalize os[j]=o at *;obtain⟨w,op⟩:=o;dsimp only at hX hEj;have hiw:=his w;clear his hE;rw[hol] at hj';cases hb:isW L i w with
   |true =>
    rw[hb] at hiw;rw[hb,if_pos rfl] at hX;rw[hX] at hI;subst hI;clear hX hr
    (refine gA ?_)
    all_goals refine aK ?_ ?_<;>(first|rfl|(clear F_;simp_all;done))
   |false =>
    rw[hb] at hiw;rw[hb,if_neg (by simp)] at hX;have hI2:=hI.trans hX;clear hX hI hr
    (refine gA ?_)
    exact zC (j+1) (by omega) ⟨by omega,hI2⟩ (by exact aTd)
  obtain rfl:j=os.length:=by omega
  have hd:decide ((os.length:Int)<(E.length:Int))=false:=by rw[← hol];simp
  rw[List.drop_length,yG] at hI;have hd2:decide ((E.length:Int)<(E.length:Int))=false:=by simp
  subst hI;clear his hE hr
  (refine gA ?_)
  all_goals refine aK ?_ ?_<;>(first|rfl|(clear F_;simp_all;done))
 |cons t0 T0 =>
  simp only[rd,rdT,rdR] at *;generalize (t0::T0).map Node.c=A at *;generalize hl:Tree.sl nl cl (L.map Tok.c)=l at *;refine zK zQl rfl ?_
  (have F_:=xaG;show W CC 2 20 (zA 310) _ ⟨[(0,_),(1,_)],[_,_]⟩ _)
  (refine gA ?_)
  refine zY (α:=Nat) (fun j=>⟨[(0,.box 0 0),(7,.t (.sl x y E)),(8,.t (.int .i64 (E.length:Int))),(9,.t (.int .i64 (j:Int)))],[.box [.t l,.t (.int .i64 (i:Int)),.t (.int .i64 (d:Int)),.hs 1 0],.arr 8 0 false A]⟩) (fun j=>os.length - j)
   (fun j=>j≤os.length∧r=yG L i (os.drop j)) 0 (by exact aTd) ⟨Nat.zero_le _,hr.symm⟩ ?_
  rintro j ⟨hj,hI⟩
  try dsimp only at hj hI
  by_cases hj':j<os.length
  ·have hd:decide ((j:Int)<(E.length:Int))=true:=by rw[← hol];simpa using hj'
   have hEj:E[j]?=some [.str os[j].1,.int .u8 os[j].2]:=by rw[hE,List.getElem?_eq_getElem hj'];rfl
   have hX:yG L i (os.drop j)=if isW L i os[j].1 then os[j].2 else yG L i (os.drop (j+1)):=by rw[List.drop_eq_getElem_cons hj',yG]
   have hw:=wI64 j (by omega);generalize os[j]=o at *;obtain⟨w,op⟩:=o;dsimp only at hX hEj;have hiw:=his w;clear his hE;rw[hol] at hj';cases hb:isW L i w with
   |true =>
    rw[hb] at hiw;rw[hb,if_pos rfl] at hX;rw[hX] at hI;subst hI;clear hX hr
    (refine gA ?_)
    all_goals refine aK ?_ ?_<;>(first|rfl|(clear F_;simp_all;done))
   |false =>
    rw[hb] at hiw;rw[hb,if_neg (by simp)] at hX;have hI2:=hI.trans hX;clear hX hI hr
    (refine gA ?_)
    exact zC (j+1) (by omega) ⟨by omega,hI2⟩ (by exact aTd)
  obtain rfl:j=os.length:=by omega
  have hd:decide ((os.length:Int)<(E.length:Int))=false:=by rw[← hol];simp
  rw[List.drop_length,yG] at hI;have hd2:decide ((E.length:Int)<(E.length:Int))=false:=by simp
  subst hI;clear his hE hr
  (refine gA ?_)
  all_goals refine aK ?_ ?_<;>(first|rfl|(clear F_;simp_all;done))
def RX.o(l:Tree):RX→Out×Heap
 |.ok a i d T=>(.val (.t (.int .i64 (a:Nat))),rd l i d T)
 |.pan e i d T=>(.pan (.t (yZ e)),rd l i d T)
def wA {C:Cfg} {f:FuncId} {fn:Func} {c:Code} {args:List AV} {h:Heap} {x:Out×Heap} (hf:nth C.P.funcs.toList f=some fn) (hb:fn.body=some c)
  (hw:W C h.length fn.ntmps (C.keep f) c ⟨zV 0 args,h⟩ (ends C f fn h.length fun o h'=>(o,h')=x)) (hn:Nat.ble args.length fn.ntmps=true:=by kernel_rfl):Om C f args h=some x:=by
 obtain⟨o,h',h1,h2⟩:=xU hf hb hw hn;rw[h1,h2]
def yBX {l:Tree} {i d:Nat} {T:List Node} {r:RX} (hg:T≠[]→r.T≠[]) (h:Om CC 275 [.box 0 0,.t (.int .i64 0),.t (.bool true),.t (.sl false false [[.str [111,114],.int .u8 4]])] (rd l i d T)=some (r.o l)) :
  Om CC 242 [.box 0 0] (rd l i d T)=some (r.o l):=by
 (have F_:=c5 zF zG zQ zE (c5 zD zI zB zO (c5 zL zN zX zS (c5 yJ yK zDn zDH (c2 yEy zIH)))))
 rcases T with _|⟨t0,T0⟩<;>rcases r with ⟨a,i',d',T'⟩|⟨e,i',d',T'⟩<;>rcases T' with _|⟨t1,T1⟩<;>first|exact absurd rfl (hg (List.cons_ne_nil _ _))|skip
 all_goals simp only[RX.o,rd,rdT,rdR,yZ] at h ⊢<;>(try generalize (t0::T0).map Node.c=E0 at *)<;>(try generalize (t1::T1).map Node.c=E1 at *)<;>refine wA yAK rfl ?_<;>(simp only[zV,List.length_cons,List.length_nil,Nat.zero_add,Nat.reduceAdd];show W CC _ 7 (zA 242) _ _ _)<;>(refine gA ?_)<;>(first|(refine aJ ?_;rfl)|(refine aM ?_;rfl))
def yA4 {l:Tree} {i d:Nat} {T:List Node} {r:RX} (hg:T≠[]→r.T≠[]) (h:Om CC 275 [.box 0 0,.t (.int .i64 1),.t (.bool true),.t (.sl false false [[.str [97,110,100],.int .u8 5]])] (rd l i d T)=some (r.o l)) :
  Om CC 243 [.box 0 0] (rd l i d T)=some (r.o l):=by
 (have F_:=c5 zF zG zQ zE (c5 zD zI zB zO (c5 zL zN zX zS (c5 yJ yK zDn zDH (c2 yBO zIH)))))
 rcases T with _|⟨t0,T0⟩<;>rcases r with ⟨a,i',d',T'⟩|⟨e,i',d',T'⟩<;>rcases T' with _|⟨t1,T1⟩<;>first|exact absurd rfl (hg (List.cons_ne_nil _ _))|skip
 all_goals simp only[RX.o,rd,rdT,rdR,yZ] at h ⊢<;>(try generalize (t0::T0).map Node.c=E0 at *)<;>(try generalize (t1::T1).map Node.c=E1 at *)<;>refine wA zZ1 rfl ?_<;>(simp only[zV,List.length_cons,List.length_nil,Nat.zero_add,Nat.reduceAdd];show W CC _ 7 (zA 243) _ _ _)<;>(refine gA ?_)<;>(first|(refine aJ ?_;rfl)|(refine aM ?_;rfl))
def zYl {l:Tree} {i d:Nat} {T:List Node} {r:RX} (hg:T≠[]→r.T≠[]) (h:Om CC 275 [.box 0 0,.t (.int .i64 3),.t (.bool false),.t (.sl false false [[.str [61],.int .u8 7],[.str [60,62],.int .u8 8],[.str [60],.int .u8 9],[.str [60,61],.int .u8 10],[.str [62],.int .u8 11],[.str [62,61],.int .u8 12]])] (rd l i d T)=some (r.o l)) :
  Om CC 245 [.box 0 0] (rd l i d T)=some (r.o l):=by
 (have F_:=c5 zF zG zQ zE (c5 zD zI zB zO (c5 zL zN zX zS (c5 yJ yK zDn zDH (c2 yDF zIH)))))
 rcases T with _|⟨t0,T0⟩<;>rcases r with ⟨a,i',d',T'⟩|⟨e,i',d',T'⟩<;>rcases T' with _|⟨t1,T1⟩<;>first|exact absurd rfl (hg (List.cons_ne_nil _ _))|skip
 all_goals simp only[RX.o,rd,rdT,rdR,yZ] at h ⊢<;>(try generalize (t0::T0).map Node.c=E0 at *)<;>(try generalize (t1::T1).map Node.c=E1 at *)<;>refine wA zZD rfl ?_<;>(simp only[zV,List.length_cons,List.length_nil,Nat.zero_add,Nat.reduceAdd];show W CC _ 12 (zA 245) _ _ _)<;>(refine gA ?_)<;>(first|(refine aJ ?_;rfl)|(refine aM ?_;rfl))
def zZH {l:Tree} {i d:Nat} {T:List Node} {r:RX} (hg:T≠[]→r.T≠[]) (h:Om CC 275 [.box 0 0,.t (.int .i64 4),.t (.bool true),.t (.sl false false [[.str [43],.int .u8 13],[.str [45],.int .u8 14]])] (rd l i d T)=some (r.o l)) :
  Om CC 246 [.box 0 0] (rd l i d T)=some (r.o l):=by
 (have F_:=c5 zF zG zQ zE (c5 zD zI zB zO (c5 zL zN zX zS (c5 yJ yK zDn zDH (c2 yCH zIH)))))
 rcases T with _|⟨t0,T0⟩<;>rcases r with ⟨a,i',d',T'⟩|⟨e,i',d',T'⟩<;>rcases T' with _|⟨t1,T1⟩<;>first|exact absurd rfl (hg (List.cons_ne_nil _ _))|skip
 all_goals simp only[RX.o,rd,rdT,rdR,yZ] at h ⊢<;>(try generalize (t0::T0).map Node.c=E0 at *)<;>(try generalize (t1::T1).map Node.c=E1 at *)<;>refine wA zZR rfl ?_<;>(simp only[zV,List.length_cons,List.length_nil,Nat.zero_add,Nat.reduceAdd];show W CC _ 8 (zA 246) _ _ _)<;>(refine gA ?_)<;>(first|(refine aJ ?_;rfl)|(refine aM ?_;rfl))
def zVJ {l:Tree} {i d:Nat} {T:List Node} {r:RX} (hg:T≠[]→r.T≠[]) (h:Om CC 275 [.box 0 0,.t (.int .i64 5),.t (.bool true),.t (.sl false false [[.str [42],.int .u8 15],[.str [47],.int .u8 16]])] (rd l i d T)=some (r.o l)) :
  Om CC 247 [.box 0 0] (rd l i d T)=some (r.o l):=by
 (have F_:=c5 zF zG zQ zE (c5 zD zI zB zO (c5 zL zN zX zS (c5 yJ yK zDn zDH (c2 yFz zIH)))))
 rcases T with _|⟨t0,T0⟩<;>rcases r with ⟨a,i',d',T'⟩|⟨e,i',d',T'⟩<;>rcases T' with _|⟨t1,T1⟩<;>first|exact absurd rfl (hg (List.cons_ne_nil _ _))|skip
 all_goals simp only[RX.o,rd,rdT,rdR,yZ] at h ⊢<;>(try generalize (t0::T0).map Node.c=E0 at *)<;>(try generalize (t1::T1).map Node.c=E1 at *)<;>refine wA zYi rfl ?_<;>(simp only[zV,List.length_cons,List.length_nil,Nat.zero_add,Nat.reduceAdd];show W CC _ 8 (zA 247) _ _ _)<;>(refine gA ?_)<;>(first|(refine aJ ?_;rfl)|(refine aM ?_;rfl))
def zZ5 {l:Tree} {i d:Nat} {T:List Node} {r:RX} (hg:T≠[]→r.T≠[]) (h:Om CC 276 [.box 0 0,.t (.int .i64 2),.t (.str [110,111,116]),.t (.int .u8 6)] (rd l i d T)=some (r.o l)) :
  Om CC 244 [.box 0 0] (rd l i d T)=some (r.o l):=by
 (have F_:=c5 zF zG zE zD (c5 zI zB zO zL (c5 zN zX zS yJ (c3 yK yDJ zUR))))
 rcases T with _|⟨t0,T0⟩<;>rcases r with ⟨a,i',d',T'⟩|⟨e,i',d',T'⟩<;>rcases T' with _|⟨t1,T1⟩<;>first|exact absurd rfl (hg (List.cons_ne_nil _ _))|skip
 all_goals simp only[RX.o,rd,rdT,rdR,yZ] at h ⊢<;>(try generalize (t0::T0).map Node.c=E0 at *)<;>(try generalize (t1::T1).map Node.c=E1 at *)<;>refine wA zX0 rfl ?_<;>(simp only[zV,List.length_cons,List.length_nil,Nat.zero_add,Nat.reduceAdd];show W CC _ 5 (zA 244) _ _ _)<;>(refine gA ?_)<;>(first|(refine aJ ?_;rfl)|(refine aM ?_;rfl))
def zSY {l:Tree} {i d:Nat} {T:List Node} {r:RX} (hg:T≠[]→r.T≠[]) (h:Om CC 276 [.box 0 0,.t (.int .i64 6),.t (.str [45]),.t (.int .u8 17)] (rd l i d T)=some (r.o l)) :
  Om CC 248 [.box 0 0] (rd l i d T)=some (r.o l):=by
 (have F_:=c5 zF zG zE zD (c5 zI zB zO zL (c5 zN zX zS yJ (c3 yK yEN zUR))))
 rcases T with _|⟨t0,T0⟩<;>rcases r with ⟨a,i',d',T'⟩|⟨e,i',d',T'⟩<;>rcases T' with _|⟨t1,T1⟩<;>first|exact absurd rfl (hg (List.cons_ne_nil _ _))|skip
 all_goals simp only[RX.o,rd,rdT,rdR,yZ] at h ⊢<;>(try generalize (t0::T0).map Node.c=E0 at *)<;>(try generalize (t1::T1).map Node.c=E1 at *)<;>refine wA yAC rfl ?_<;>(simp only[zV,List.length_cons,List.length_nil,Nat.zero_add,Nat.reduceAdd];show W CC _ 5 (zA 248) _ _ _)<;>(refine gA ?_)<;>(first|(refine aJ ?_;rfl)|(refine aM ?_;rfl))
def zC4 {l:Tree} {i d:Nat} {T:List Node} {r:RX} {n:Int} {f:FuncId} (hb:yX Tryz.prog f=true) (hp:∀x,CC.prim f x=none)
  (hx:index Tryz.prog 305 (.agg [.fn 242 [.box 0 0] [],.fn 243 [.box 0 0] [],.fn 244 [.box 0 0] [],.fn 245 [.box 0 0] [],.fn 246 [.box 0 0] [],.fn 247 [.box 0 0] [],.fn 248 [.box 0 0] [],.fn 249 [.box 0 0] []]) n=some (.fn f [.box 0 0] [])) (hg:T≠[]→r.T≠[]) (h:Om CC f [.box 0 0] (rd l i d T)=some (r.o l)) :
  Om CC 198 [.box 0 0,.t (.int .i64 n)] (rd l i d T)=some (r.o l):=by
 have hbd:build Tryz.prog 305 [(0,.fn 242 [.box 0 0] []),(1,.fn 243 [.box 0 0] []),(2,.fn 244 [.box 0 0] []),(3,.fn 245 [.box 0 0] []),(4,.fn 246 [.box 0 0] []),(5,.fn 247 [.box 0 0] []),(6,.fn 248 [.box 0 0] []),(7,.fn 249 [.box 0 0] [])]=some (.agg [.fn 242 [.box 0 0] [],.fn 243 [.box 0 0] [],.fn 244 [.box 0 0] [],.fn 245 [.box 0 0] [],.fn 246 [.box 0 0] [],.fn 247 [.box 0 0] [],.fn 248 [.box 0 0] [],.fn 249 [.box 0 0] []]):=by kernel_rfl
 (have F_:=c5 zF zG zE zD (c5 zI zB zO zL (c5 zN zX zS yFt (c3 yJ yK (c2 yFA yDR)))))
 rcases T with _|⟨t0,T0⟩<;>rcases r with ⟨a,i',d',T'⟩|⟨e,i',d',T'⟩<;>rcases T' with _|⟨t1,T1⟩<;>first|exact absurd rfl (hg (List.cons_ne_nil _ _))|skip
 all_goals simp only[RX.o,rd,rdT,rdR,yZ] at h ⊢<;>(try generalize (t0::T0).map Node.c=E0 at *)<;>(try generalize (t1::T1).map Node.c=E1 at *)<;>refine wA zYn rfl ?_<;>(simp only[zV,List.length_cons,List.length_nil,Nat.zero_add,Nat.reduceAdd];show W CC _ 25 (zA 198) _ _ _)<;>(refine gA ?_)<;>(first|(refine aJ ?_;rfl)|(refine aM ?_;rfl))
def wlev0{l:Tree}{i d:Nat}{T:List Node}{r:RX}(hg:T≠[]→r.T≠[])(h:Om CC 242 [.box 0 0] (rd l i d T)=some (r.o l)):Om CC 198 [.box 0 0,.t (.int .i64 0)] (rd l i d T)=some (r.o l) :=
 zC4 yEd (fun x=>zZ _ x (by decide)) (by kernel_rfl) hg h
def wlev1{l:Tree}{i d:Nat}{T:List Node}{r:RX}(hg:T≠[]→r.T≠[])(h:Om CC 243 [.box 0 0] (rd l i d T)=some (r.o l)):Om CC 198 [.box 0 0,.t (.int .i64 1)] (rd l i d T)=some (r.o l) :=
 zC4 yEF (fun x=>zZ _ x (by decide)) (by kernel_rfl) hg h
def wlev2{l:Tree}{i d:Nat}{T:List Node}{r:RX}(hg:T≠[]→r.T≠[])(h:Om CC 244 [.box 0 0] (rd l i d T)=some (r.o l)):Om CC 198 [.box 0 0,.t (.int .i64 2)] (rd l i d T)=some (r.o l) :=
 zC4 yFu (fun x=>zZ _ x (by decide)) (by kernel_rfl) hg h
def wlev3{l:Tree}{i d:Nat}{T:List Node}{r:RX}(hg:T≠[]→r.T≠[])(h:Om CC 245 [.box 0 0] (rd l i d T)=some (r.o l)):Om CC 198 [.box 0 0,.t (.int .i64 3)] (rd l i d T)=some (r.o l) :=
 zC4 yEa (fun x=>zZ _ x (by decide)) (by kernel_rfl) hg h
def wlev4{l:Tree}{i d:Nat}{T:List Node}{r:RX}(hg:T≠[]→r.T≠[])(h:Om CC 246 [.box 0 0] (rd l i d T)=some (r.o l)):Om CC 198 [.box 0 0,.t (.int .i64 4)] (rd l i d T)=some (r.o l) :=
 zC4 yCf (fun x=>zZ _ x (by decide)) (by kernel_rfl) hg h
def wlev5{l:Tree}{i d:Nat}{T:List Node}{r:RX}(hg:T≠[]→r.T≠[])(h:Om CC 247 [.box 0 0] (rd l i d T)=some (r.o l)):Om CC 198 [.box 0 0,.t (.int .i64 5)] (rd l i d T)=some (r.o l) :=
 zC4 yFp (fun x=>zZ _ x (by decide)) (by kernel_rfl) hg h
def wlev6{l:Tree}{i d:Nat}{T:List Node}{r:RX}(hg:T≠[]→r.T≠[])(h:Om CC 248 [.box 0 0] (rd l i d T)=some (r.o l)):Om CC 198 [.box 0 0,.t (.int .i64 6)] (rd l i d T)=some (r.o l) :=
 zC4 yEu (fun x=>zZ _ x (by decide)) (by kernel_rfl) hg h
def wlev7{l:Tree}{i d:Nat}{T:List Node}{r:RX}(hg:T≠[]→r.T≠[])(h:Om CC 249 [.box 0 0] (rd l i d T)=some (r.o l)):Om CC 198 [.box 0 0,.t (.int .i64 7)] (rd l i d T)=some (r.o l) :=
 zC4 yBo (fun x=>zZ _ x (by decide)) (by kernel_rfl) hg h
def zUW {nl cl:Bool} {L:List Tok} {i d:Nat} {T:List Node} {r:RX} {n:Nat} {w:List Nat} {op:Int} (hn:n<10) (hw:isW L i w=false) (hg:T≠[]→r.T≠[])
  (h:Om CC 198 [.box 0 0,.t (.int .i64 ((n+1:Nat):Int))] (rd (.sl nl cl (L.map Tok.c)) i d T)=some (r.o (.sl nl cl (L.map Tok.c)))) :
  Om CC 276 [.box 0 0,.t (.int .i64 (n:Int)),.t (.str w),.t (.int .u8 op)] (rd (.sl nl cl (L.map Tok.c)) i d T)=some (r.o (.sl nl cl (L.map Tok.c))):=by
 have h1:=kL nl cl L i d T w;rw[hw] at h1;clear hw;have h2:=wI64 n (by omega);generalize Tree.sl nl cl (L.map Tok.c)=l at *
 (have F_:=c5 zF zG zQ zE (c5 zD zI zB zO (c5 zL zN zX zS (c5 yJ yK zLM wY qT))))
 rcases T with _|⟨t0,T0⟩<;>rcases r with ⟨a,i',d',T'⟩|⟨e,i',d',T'⟩<;>rcases T' with _|⟨t1,T1⟩<;>first|exact absurd rfl (hg (List.cons_ne_nil _ _))|skip
 all_goals simp only[RX.o,rd,rdT,rdR,yZ] at h h1 ⊢<;>(try generalize (t0::T0).map Node.c=E0 at *)<;>(try generalize (t1::T1).map Node.c=E1 at *)<;>refine wA zJd rfl ?_<;>(simp only[zV,List.length_cons,List.length_nil,Nat.zero_add,Nat.reduceAdd];show W CC _ 47 (zA 276) _ _ _)<;>(refine gA ?_)<;>(first|(refine aJ ?_;rfl)|(refine aM ?_;rfl))
def zPY {nl cl:Bool} {L:List Tok} {i:Nat} {T:List Node} {n:Nat} {w:List Nat} {op:Int} (hn:n<10) (hw:isW L i w=true) :
  Om CC 276 [.box 0 0,.t (.int .i64 (n:Int)),.t (.str w),.t (.int .u8 op)] (rd (.sl nl cl (L.map Tok.c)) i 12 T)=some ((RX.pan 12 i 12 T).o (.sl nl cl (L.map Tok.c))):=by
 have h1:=kL nl cl L i 12 T w;have h2:=zFL nl cl L i 12 T;rw[hw] at h1;clear hw;have h3:=zJ1 (.sl nl cl (L.map Tok.c)) i T;generalize Tree.sl nl cl (L.map Tok.c)=l at *
 (have F_:=c5 zF zG zQ zE (c5 zD zI zB zO (c5 zL zN zX zS (c5 yJ yK zLM wY (c2 zIb jD)))))
 rcases T with _|⟨t0,T0⟩
 all_goals simp only[RX.o,rd,rdT,rdR,yZ] at h1 h2 h3 ⊢<;>(try generalize (t0::T0).map Node.c=E0 at *)<;>refine wA zJd rfl ?_<;>(simp only[zV,List.length_cons,List.length_nil,Nat.zero_add,Nat.reduceAdd];show W CC _ 47 (zA 276) _ _ _)<;>(refine gA ?_)<;>(first|(refine aJ ?_;rfl)|(refine aM ?_;rfl))
def zSn {nl cl:Bool} {L:List Tok} {i d i' d':Nat} {T T':List Node} {n:Nat} {w:List Nat} {op e:Int} (hn:n<10) (hd:d<12) (hi:i<9223372036854775807) (hw:isW L i w=true) (hg:T≠[]→T'≠[])
  (h:Om CC 198 [.box 0 0,.t (.int .i64 (n:Int))] (rd (.sl nl cl (L.map Tok.c)) (i+1) (d+1) T)=some ((RX.pan e i' d' T').o (.sl nl cl (L.map Tok.c)))) :
  Om CC 276 [.box 0 0,.t (.int .i64 (n:Int)),.t (.str w),.t (.int .u8 op)] (rd (.sl nl cl (L.map Tok.c)) i d T)=some ((RX.pan e i' d' T').o (.sl nl cl (L.map Tok.c))):=by
 have h1:=kL nl cl L i d T w;have h2:=zFL nl cl L i d T;rw[hw] at h1;clear hw;have h3:=zD3 (.sl nl cl (L.map Tok.c)) i d T hd;have h4:=wI64 i (by omega);generalize Tree.sl nl cl (L.map Tok.c)=l at *
 (have F_:=c5 zF zG zQ zE (c5 zD zI zB zO (c5 zL zN zX zS (c5 yJ yK zLM wY (c3 zIb jD qT)))))
 rcases T with _|⟨t0,T0⟩<;>rcases T' with _|⟨t1,T1⟩<;>first|exact absurd rfl (hg (List.cons_ne_nil _ _))|skip
 all_goals simp only[RX.o,rd,rdT,rdR,yZ] at h h1 h2 h3 ⊢<;>(try generalize (t0::T0).map Node.c=E0 at *)<;>(try generalize (t1::T1).map Node.c=E1 at *)<;>refine wA zJd rfl ?_<;>(simp only[zV,List.length_cons,List.length_nil,Nat.zero_add,Nat.reduceAdd];show W CC _ 47 (zA 276) _ _ _)<;>(refine gA ?_)<;>(first|(refine aJ ?_;rfl)|(refine aM ?_;rfl))
def zUl {nl cl:Bool} {L:List Tok} {i d a i':Nat} {T T':List Node} {n:Nat} {w:List Nat} {op:Int} (hn:n<10) (hd:d<12) (hi:i<9223372036854775807) (hw:isW L i w=true) (hg:T'≠[]) (hl:T'.length<4294967295)
  (h:Om CC 198 [.box 0 0,.t (.int .i64 (n:Int))] (rd (.sl nl cl (L.map Tok.c)) (i+1) (d+1) T)=some ((RX.ok a i' (d+1) T').o (.sl nl cl (L.map Tok.c)))) :
  Om CC 276 [.box 0 0,.t (.int .i64 (n:Int)),.t (.str w),.t (.int .u8 op)] (rd (.sl nl cl (L.map Tok.c)) i d T)=some ((RX.ok T'.length i' d (T'++[xK op VZ [] [(a:Int)] (plW L i)])).o (.sl nl cl (L.map Tok.c))):=by
 have h1:=kL nl cl L i d T w;have h2:=zFL nl cl L i d T;rw[hw] at h1;clear hw;have h3:=zD3 (.sl nl cl (L.map Tok.c)) i d T hd;have h4:=wI64 i (by omega);have h5:IntKind.i64.wrap (((d+1:Nat):Int) - 1)=(d:Int):=by rw[wrap64]<;>omega
 have h6:=zB1 (.sl nl cl (L.map Tok.c)) i' d T' op 0 0 [] [] (.sl true true []) ⟨false,false,[(a:Int)]⟩ (plW L i).1 (plW L i).2 hl;have h7:T'++[xK op VZ [] [(a:Int)] (plW L i)]=T'++[⟨op,⟨0,0,[]⟩,[],⟨false,false,[(a:Int)]⟩,(plW L i).1,(plW L i).2⟩]:=rfl;rw[h7];clear h7;generalize Tree.sl nl cl (L.map Tok.c)=l at *;generalize (plW L i).1=p1 at *;generalize (plW L i).2=p2 at *;rcases T' with _|⟨t1,T1⟩
 ·exact absurd rfl hg
 generalize hN:(⟨op,⟨0,0,[]⟩,[],⟨false,false,[(a:Int)]⟩,p1,p2⟩:Node)=N at *;rw[List.cons_append] at h6 ⊢;simp only[Sl.t,intC,List.map_cons,List.map_nil] at h6;generalize hlen:(t1::T1).length=len at *
 (have F_:=c5 zF zG zQ zE (c5 zD zI zB zO (c5 zL zN zX zS (c5 yJ yK zLM wY (c3 zIb jD (c2 qT zAb))))))
 rcases T with _|⟨t0,T0⟩
 all_goals simp only[RX.o,rd,rdT,rdR,yZ] at h h1 h2 h3 h6 ⊢<;>(try generalize (t0::T0).map Node.c=E0 at *)<;>generalize (t1::T1).map Node.c=E1 at *<;>generalize (t1::(T1++[N])).map Node.c=E2 at *<;>clear hlen hN<;>refine wA zJd rfl ?_<;>(simp only[zV,List.length_cons,List.length_nil,Nat.zero_add,Nat.reduceAdd];show W CC _ 47 (zA 276) _ _ _)<;>(refine gA ?_)<;>(first|(refine aJ ?_;rfl)|(refine aM ?_;rfl))
end Go.Ab
