/- Lemmas. -/
import Derived.Test.YtdbfacakphncfaaGreatDoorG06
set_option maxRecDepth 1000000
set_option maxHeartbeats 40000000
set_option linter.all false
namespace Go.Ab
open Go.Proofs
attribute [local irreducible] W RW RR
def rdT:List Node→AV
 |[]=>.t (.sl true true [])
 |_::_=>.hs 1 0
def rdR:List Node→Heap
 |[]=>[]
 |t::r=>[.arr 8 0 false ((t::r).map Node.c)]
def rd(l:Tree)(i d:Nat)(T:List Node):Heap:=.box [.t l,.t (.int .i64 (i:Int)),.t (.int .i64 (d:Int)),rdT T]::rdR T
def vF{L:List Tok}{i:Nat}{t:Tok}(h:L[i]?=some t):(L.map Tok.c)[i]?=some [.int .u8 t.k,.str t.s,.int .u8 t.v.k,.int .i64 t.v.n,.str t.v.s,.int .i64 t.line,.int .i64 t.col]:=by
 rw[List.getElem?_map,h];rfl
def zBV(a b:List Nat):(a==b)=decide (a=b):=by cases h:(a==b)<;>simp_all
def xaB:=c5 zF zG zE zC (c5 zB zO zK zV (c5 zU zM zI yM (c2 yL zLd)))
def qP(nl cl:Bool)(L:List Tok)(i d:Nat)(T:List Node)(w:List Nat) :
  Om CC 259 [.box 0 0,.t (.str w)] (rd (.sl nl cl (L.map Tok.c)) i d T)=some (.val (.t (.bool (isW L i w))),rd (.sl nl cl (L.map Tok.c)) i d T):=by
 by_cases hi:i<L.length
 ·obtain⟨t,ht⟩:∃t,L[i]?=some t:=⟨_,List.getElem?_eq_getElem hi⟩;have hT:=vF ht;have hd:decide ((i:Int)<((L.map Tok.c).length:Int))=true:=by simpa using hi
  have hW:isW L i w=(beqL t.s w&&(t.k==1||t.k==7)):=by unfold isW;rw[ht];dsimp only;rw[Bool.and_comm,wV,← zBV]
  rw[hW];generalize L.map Tok.c=l at *;generalize hA:beqL t.s w=b0 at *;generalize hC:(t.k==1)=b1 at *;generalize hD:(t.k==7)=b2 at *;cases T with
  |nil =>
   simp only[rd,rdT,rdR];refine zL zJa rfl ?_
   (have F_:=xaB;show W CC 1 58 (zA 259) _ ⟨[(0,_),(1,_)],[_]⟩ _)
   (repeat' first|refine gA ?_|refine gT ?_ ?_<;>intro hv|fail)
   all_goals refine aK ?_ ?_<;>(first|rfl|(clear F_;simp_all;done))
  |cons t0 T0 =>
   simp only[rd,rdT,rdR];generalize (t0::T0).map Node.c=E;refine zL zJa rfl ?_
   (have F_:=xaB;show W CC 2 58 (zA 259) _ ⟨[(0,_),(1,_)],[_,_]⟩ _)
   (repeat' first|refine gA ?_|refine gT ?_ ?_<;>intro hv|fail)
   all_goals refine aK ?_ ?_<;>(first|rfl|(clear F_;simp_all;done))
 have hd:decide ((i:Int)<((L.map Tok.c).length:Int))=false:=by simp;omega
 have hW:isW L i w=false:=by unfold isW;rw[List.getElem?_eq_none (by omega)]
 rw[hW];generalize L.map Tok.c=l at *;cases T with
 |nil =>
  simp only[rd,rdT,rdR];refine zL zJa rfl ?_
  (have F_:=xaB;show W CC 1 58 (zA 259) _ ⟨[(0,_),(1,_)],[_]⟩ _)
  (refine gA ?_)
  all_goals refine aK ?_ ?_<;>(first|rfl|(clear F_;simp_all;done))
 |cons t0 T0 =>
  simp only[rd,rdT,rdR];generalize (t0::T0).map Node.c=E;refine zL zJa rfl ?_
  (have F_:=xaB;show W CC 2 58 (zA 259) _ ⟨[(0,_),(1,_)],[_,_]⟩ _)
  (refine gA ?_)
  all_goals refine aK ?_ ?_<;>(first|rfl|(clear F_;simp_all;done))
def xD(e:Int):Tree:=.ifc 227 (.int .i64 e)
def zYg(C:Cfg)(f:FuncId)(fn:Func)(m:Nat)(v':AV)(h':Heap):Ex→St→Prop
 |.pan v,st=>yK fn.ntmps st.T=some []∧yW C f m v st.h=some (v',h')
 |_,_=>False
def zCB {C:Cfg} {f:FuncId} {fn:Func} {c:Code} {args:List AV} {h:Heap} {v':AV} {h':Heap} (hf:nth C.P.funcs.toList f=some fn) (hb:fn.body=some c)
  (hw:W C h.length fn.ntmps (C.keep f) c ⟨zT 0 args,h⟩ (zYg C f fn h.length v' h')) (hn:Nat.ble args.length fn.ntmps=true:=by kernel_rfl):Om C f args h=some (.pan v',h'):=by
 obtain⟨o,h1,h2,rfl,rfl⟩:=xU (R:=fun o h1=>o=.pan v'∧h1=h') hf hb (hw.mono fun e st hq=>by
  cases e with
  |normal=>exact hq.elim
  |ret=>exact hq.elim
  |exit id=>exact hq.elim
  |pan v=>obtain⟨h0,h1⟩:=hq;exact⟨h0,v',h',h1,rfl,rfl⟩) hn
 exact h2
section
variable {C:Cfg} {f:FuncId} {fn:Func} {m:Nat} {st:St} {v v' w:AV} {h h':Heap}
theorem aLp2 (h3:w=v') (h4:h=h') (h2:yW C f m v st.h=some (w,h):=by(first|exact uW _ _ _ _|(simp only[yW,kR,uX,yO,view,elems,xF,patch,put1,catMap,canon,reach,wT,refs,vS,depth,renL,ren,renO,sub,sub1,upto,mem,place,fresh,cond_true,Ab.get,nth,List.map,List.take,List.length_cons,List.length_nil,List.append_nil,List.nil_append,List.cons_append,Bool.and_true,uG,decide_true,decide_false,reduceIte,Nat.reduceEqDiff,Nat.reduceAdd,Nat.zero_add,Nat.beq,mkAgg,trees,if_true,F_]<;>exact rfl)|kernel_rfl))
  (h0:yK fn.ntmps st.T=some []:=by kernel_rfl):zYg C f fn m v' h' (.pan v) st:=⟨h0,by rw[h2,h3,h4]⟩
theorem aLn2 (h3:w=v') (h4:h=h') (h1:results C.P fn st=some v:=by(simp only[zBe,results,qC,zAZ,Ab.get,Nat.beq,load,loadCells,nth,cut,mkAgg,trees,Option.map_some,List.map_cons,List.map_nil,List.length_cons,List.length_nil,List.take,List.drop,Nat.zero_add,Nat.add_zero,Nat.reduceAdd,Nat.reduceLeDiff,if_true,F_, *];exact rfl))
  (h2:yW C f m v st.h=some (w,h):=by(first|exact uW _ _ _ _|exact kN _ _ _ _ _|exact kP _ _ _ _ _ _|(simp only[yW,kR,uX,yO,view,elems,xF,patch,put1,catMap,canon,reach,wT,refs,vS,depth,renL,ren,renO,sub,sub1,upto,mem,place,fresh,cond_true,Ab.get,nth,List.map,List.take,List.length_cons,List.length_nil,List.append_nil,List.nil_append,List.cons_append,Bool.and_true,uG,decide_true,decide_false,reduceIte,Nat.reduceEqDiff,Nat.reduceAdd,Nat.zero_add,Nat.beq,mkAgg,trees,if_true,F_]<;>exact rfl)|kernel_rfl))
  (h0:yK fn.ntmps st.T=some []:=by kernel_rfl):Ends' C f fn m v' h' .normal st:=⟨h0,v,h1,by rw[h2,h3,h4]⟩
end
def xaC:=c5 zF zG zE zC (c5 zB zO zK zV (c5 zU zM zI yM (c3 yL wP zKY)))
def zDV(l:Tree)(i d:Nat)(T:List Node)(hd:d<12):Om CC 260 [.box 0 0] (rd l i d T)=some (.val (.tup []),rd l i (d+1) T):=by
 have h1:((d:Int)==12)=false:=by simp;omega
 have h2:=wI64 d (by omega);cases T with
 |nil =>
  simp only[rd,rdT,rdR] at *;refine zL zI6 rfl ?_
  (have F_:=xaC;show W CC 1 15 (zA 260) _ ⟨[(0,_)],[_]⟩ _)
  (refine gA ?_)
  all_goals ((refine aLn2 ?_ ?_))<;>(first|rfl|(clear F_;simp_all;done))
 |cons t0 T0 =>
  simp only[rd,rdT,rdR] at *;generalize (t0::T0).map Node.c=E at *;refine zL zI6 rfl ?_
  (have F_:=xaC;show W CC 2 15 (zA 260) _ ⟨[(0,_)],[_,_]⟩ _)
  (refine gA ?_)
  all_goals ((refine aLn2 ?_ ?_))<;>(first|rfl|(clear F_;simp_all;done))
def zKI(l:Tree)(i:Nat)(T:List Node):Om CC 260 [.box 0 0] (rd l i 12 T)=some (.pan (.t (xD 12)),rd l i 12 T):=by
 have h1:(((12:Nat):Int)==12)=true:=rfl;cases T with
 |nil =>
  simp only[rd,rdT,rdR] at *;refine zCB zI6 rfl ?_
  (have F_:=xaC;show W CC 1 15 (zA 260) _ ⟨[(0,_)],[_]⟩ _)
  (refine gA ?_)
  all_goals ((refine aLp2 ?_ ?_))<;>(first|rfl|(clear F_;simp_all;done))
 |cons t0 T0 =>
  simp only[rd,rdT,rdR] at *;generalize (t0::T0).map Node.c=E at *;refine zCB zI6 rfl ?_
  (have F_:=xaC;show W CC 2 15 (zA 260) _ ⟨[(0,_)],[_,_]⟩ _)
  (refine gA ?_)
  all_goals ((refine aLp2 ?_ ?_))<;>(first|rfl|(clear F_;simp_all;done))
def xaD:=c5 zF zG zP zE (c5 zC zB zO zK (c5 zV zU zM zI (c5 yM yL wP zLQ vA)))
def zDE (nl cl:Bool) (L:List Tok) (i d:Nat) (T:List Node) (w:List Nat) (hi:i<9223372036854775807) (hw:isW L i w=true) :
  Om CC 261 [.box 0 0,.t (.str w)] (rd (.sl nl cl (L.map Tok.c)) i d T)=some (.val (.tup []),rd (.sl nl cl (L.map Tok.c)) (i+1) d T):=by
 have h1:=qP nl cl L i d T w;rw[hw] at h1;clear hw;have h2:=wI64 i (by omega);generalize L.map Tok.c=l at *;cases T with
 |nil =>
  simp only[rd,rdT,rdR] at *;refine zL zJE rfl ?_
  (have F_:=xaD;show W CC 1 16 (zA 261) _ ⟨[(0,_),(1,_)],[_]⟩ _)
  (refine gA ?_)
  all_goals ((refine aLn2 ?_ ?_))<;>(first|rfl|(clear F_;simp_all;done))
 |cons t0 T0 =>
  simp only[rd,rdT,rdR] at *;generalize (t0::T0).map Node.c=E at *;refine zL zJE rfl ?_
  (have F_:=xaD;show W CC 2 16 (zA 261) _ ⟨[(0,_),(1,_)],[_,_]⟩ _)
  (refine gA ?_)
  all_goals ((refine aLn2 ?_ ?_))<;>(first|rfl|(clear F_;simp_all;done))
def zHx (nl cl:Bool) (L:List Tok) (i d:Nat) (T:List Node) (w:List Nat) (hw:isW L i w=false) :
  Om CC 261 [.box 0 0,.t (.str w)] (rd (.sl nl cl (L.map Tok.c)) i d T)=some (.pan (.t (xD 4)),rd (.sl nl cl (L.map Tok.c)) i d T):=by
 have h1:=qP nl cl L i d T w;rw[hw] at h1;clear hw;generalize L.map Tok.c=l at *;cases T with
 |nil =>
  simp only[rd,rdT,rdR] at *;refine zCB zJE rfl ?_
  (have F_:=xaD;show W CC 1 16 (zA 261) _ ⟨[(0,_),(1,_)],[_]⟩ _)
  (refine gA ?_)
  all_goals ((refine aLp2 ?_ ?_))<;>(first|rfl|(clear F_;simp_all;done))
 |cons t0 T0 =>
  simp only[rd,rdT,rdR] at *;generalize (t0::T0).map Node.c=E at *;refine zCB zJE rfl ?_
  (have F_:=xaD;show W CC 2 16 (zA 261) _ ⟨[(0,_),(1,_)],[_,_]⟩ _)
  (refine gA ?_)
  all_goals ((refine aLp2 ?_ ?_))<;>(first|rfl|(clear F_;simp_all;done))
def xaE:=c5 zF zG zE zC (c5 zB zO zK zV (c5 zU zM zI yM (c2 yL zL7)))
def zF8 (nl cl:Bool) (L:List Tok) (i d:Nat) (T:List Node) :
  Om CC 283 [.box 0 0] (rd (.sl nl cl (L.map Tok.c)) i d T)=some (.val (.t (.agg [.int .i64 (plW L i).1,.int .i64 (plW L i).2])),rd (.sl nl cl (L.map Tok.c)) i d T):=by
 by_cases hi:i<L.length
 ·obtain⟨t,ht⟩:∃t,L[i]?=some t:=⟨_,List.getElem?_eq_getElem hi⟩;have hT:=vF ht;have hd:decide ((i:Int)<((L.map Tok.c).length:Int))=true:=by simpa using hi
  have hP:plW L i=(t.line,t.col):=by unfold plW;rw[ht]
  rw[hP];generalize L.map Tok.c=l at *;cases T with
  |nil =>
   simp only[rd,rdT,rdR] at *;refine zL zJo rfl ?_
   (have F_:=xaE;show W CC 1 25 (zA 283) _ ⟨[(0,_)],[_]⟩ _)
   (refine gA ?_)
   all_goals refine aK ?_ ?_<;>(first|rfl|(clear F_;simp_all;done))
  |cons t0 T0 =>
   simp only[rd,rdT,rdR] at *;generalize (t0::T0).map Node.c=E at *;refine zL zJo rfl ?_
   (have F_:=xaE;show W CC 2 25 (zA 283) _ ⟨[(0,_)],[_,_]⟩ _)
   (refine gA ?_)
   all_goals refine aK ?_ ?_<;>(first|rfl|(clear F_;simp_all;done))
 have hd:decide ((i:Int)<((L.map Tok.c).length:Int))=false:=by simp;omega
 have hP:plW L i=(0,0):=by unfold plW;rw[List.getElem?_eq_none (by omega)]
 rw[hP];generalize L.map Tok.c=l at *;cases T with
 |nil =>
  simp only[rd,rdT,rdR] at *;refine zL zJo rfl ?_
  (have F_:=xaE;show W CC 1 25 (zA 283) _ ⟨[(0,_)],[_]⟩ _)
  (refine gA ?_)
  all_goals refine aK ?_ ?_<;>(first|rfl|(clear F_;simp_all;done))
 |cons t0 T0 =>
  simp only[rd,rdT,rdR] at *;generalize (t0::T0).map Node.c=E at *;refine zL zJo rfl ?_
  (have F_:=xaE;show W CC 2 25 (zA 283) _ ⟨[(0,_)],[_,_]⟩ _)
  (refine gA ?_)
  all_goals refine aK ?_ ?_<;>(first|rfl|(clear F_;simp_all;done))
def xaF:=c5 zF zG zE zC (c5 zB zO zK zV (c5 zU zM zI yM (c2 yL zS0)))
def zBO (l:Tree) (i d:Nat) (T:List Node) (op k n:Int) (s name:List Nat) (k0:Tree) (kids:Sl Int) (line col:Int) (hT:T.length<4294967295) :
  Om CC 262 [.box 0 0,.t (.agg [.int .u8 op,.int .u8 k,.int .i64 n,.str s,.str name,k0,.int .i64 line,.int .i64 col]),.t (kids.t intC)] (rd l i d T)
   = some (.val (.t (.int .i64 (T.length:Nat))),rd l i d (T++[⟨op,⟨k,n,s⟩,name,kids,line,col⟩])):=by
 obtain⟨knl,kcl,kl⟩:=kids
 show Om CC _ [.box 0 0,_,.t (.sl knl kcl (kl.map intC))] _=_
 cases T with
 |nil =>
  simp only[rd,rdT,rdR,List.nil_append];have hw:IntKind.i64.wrap (((1:Nat):Int) - 1)=0:=rfl;generalize hk:kl.map intC=ks at *;refine zL zRk rfl ?_
  (have F_:=xaF;show W CC 1 25 (zA 262) _ ⟨[(0,_),(1,_),(2,_)],[_]⟩ _)
  (refine gA ?_)
  all_goals refine aK ?_ ?_<;>(first|rfl|(subst hk;rfl)|(clear F_;simp_all;done))
 |cons t0 T0 =>
  simp only[rd,rdT,rdR,List.cons_append];have e1:((t0::(T0++[⟨op,⟨k,n,s⟩,name,⟨knl,kcl,kl⟩,line,col⟩])).map Node.c)=(t0::T0).map Node.c++[[.int .u8 op,.int .u8 k,.int .i64 n,.str s,.str name,(.sl knl kcl (kl.map intC)),.int .i64 line,.int .i64 col]]:=by
   rw[← List.cons_append,List.map_append];rfl
  rw[e1];have hl:(t0::T0).length=((t0::T0).map Node.c).length:=by rw[List.length_map]
  have hh:lens 8 ((t0::T0).map Node.c)=true:=by unfold lens;rw[List.all_map];exact List.all_eq_true.2 fun x _=>rfl
  rw[hl] at hT ⊢;have hF:decide (((t0::T0).map Node.c).length+1<4294967296)=true:=by(rw[decide_eq_true_eq];omega)
  generalize (t0::T0).map Node.c=E at *;have hw:IntKind.i64.wrap (((E.length+1:Nat):Int) - 1)=(E.length:Int):=by rw[wrap64]<;>omega
  generalize hk:kl.map intC=ks at *;refine zL zRk rfl ?_
  (have F_:=xaF;show W CC 2 25 (zA 262) _ ⟨[(0,_),(1,_),(2,_)],[_,_]⟩ _)
  (refine gA ?_)
  all_goals refine aK ?_ ?_<;>(first|rfl|(clear F_;simp_all;done))
def opsC(o:List Nat×Int):List Tree:=[.str o.1,.int .u8 o.2]
def xaG:=c5 zF zG zE zC (c5 zB zO zK zV (c5 zU zM zI yM (c5 yL zDs zDg zUR vA)))
def zVw (nl cl:Bool) (L:List Tok) (i d:Nat) (T:List Node) (x y:Bool) (os:List (List Nat×Int)) (ho:os.length<9223372036854775807) :
  Om CC 284 [.box 0 0,.t (.sl x y (os.map opsC))] (rd (.sl nl cl (L.map Tok.c)) i d T)=some (.val (.t (.int .u8 (yH L i os))),rd (.sl nl cl (L.map Tok.c)) i d T):=by
 have hc:=fun w=>qP nl cl L i d T w
 have he:os.length=(os.map opsC).length:=by rw[List.length_map]
 have hE:∀j,(os.map opsC)[j]?=os[j]?.map opsC:=fun j=>List.getElem?_map
 generalize os.map opsC=E at *;generalize hr:yH L i os=r;cases T with
 |nil =>
  simp only[rd,rdT,rdR] at *
  skip
  generalize hl:Tree.sl nl cl (L.map Tok.c)=l at *;refine zL zQE rfl ?_
  (have F_:=xaG;show W CC 1 20 (zA 284) _ ⟨[(0,_),(1,_)],[_]⟩ _)
  (refine gA ?_)
  refine yE (α:=Nat) (fun j=>⟨[(0,.box 0 0),(7,.t (.sl x y E)),(8,.t (.int .i64 (E.length:Int))),(9,.t (.int .i64 (j:Int)))],[.box [.t l,.t (.int .i64 (i:Int)),.t (.int .i64 (d:Int)),.t (.sl true true [])]]⟩) (fun j=>os.length - j)
   (fun j=>j≤os.length∧r=yH L i (os.drop j)) 0 (by exact aTd) ⟨Nat.zero_le _,hr.symm⟩ ?_
  rintro j ⟨hj,hI⟩
  try dsimp only at hj hI
  by_cases ha:j<os.length
  ·have hd:decide ((j:Int)<(E.length:Int))=true:=by rw[← he];simpa using ha
   have hu:E[j]?=some [.str os[j].1,.int .u8 os[j].2]:=by rw[hE,List.getElem?_eq_getElem ha];rfl
   have hX:yH L i (os.drop j)=if isW L i os[j].1 then os[j].2 else yH L i (os.drop (j+1)):=by rw[List.drop_eq_getElem_cons ha,yH]
   have hw:=wI64 j (by omega);generalize os[j]=o at *;obtain⟨w,op⟩:=o;dsimp only at hX hu;have hm:=hc w;clear hc hE;rw[he] at ha;cases hb:isW L i w with
   |true =>
    rw[hb] at hm;rw[hb,if_pos rfl] at hX;rw[hX] at hI;subst hI;clear hX hr
    (refine gA ?_)
    all_goals refine aK ?_ ?_<;>(first|rfl|(clear F_;simp_all;done))
   |false =>
    rw[hb] at hm;rw[hb,if_neg (by simp)] at hX;have hy:=hI.trans hX;clear hX hI hr
    (refine gA ?_)
    exact zD (j+1) (by omega) ⟨by omega,hy⟩ (by exact aTd)
  obtain rfl:j=os.length:=by omega
  have hd:decide ((os.length:Int)<(E.length:Int))=false:=by rw[← he];simp
  rw[List.drop_length,yH] at hI;have hz:decide ((E.length:Int)<(E.length:Int))=false:=by simp
  subst hI;clear hc hE hr
  (refine gA ?_)
  all_goals refine aK ?_ ?_<;>(first|rfl|(clear F_;simp_all;done))
 |cons t0 T0 =>
  simp only[rd,rdT,rdR] at *;generalize (t0::T0).map Node.c=A at *;generalize hl:Tree.sl nl cl (L.map Tok.c)=l at *;refine zL zQE rfl ?_
  (have F_:=xaG;show W CC 2 20 (zA 284) _ ⟨[(0,_),(1,_)],[_,_]⟩ _)
  (refine gA ?_)
  refine yE (α:=Nat) (fun j=>⟨[(0,.box 0 0),(7,.t (.sl x y E)),(8,.t (.int .i64 (E.length:Int))),(9,.t (.int .i64 (j:Int)))],[.box [.t l,.t (.int .i64 (i:Int)),.t (.int .i64 (d:Int)),.hs 1 0],.arr 8 0 false A]⟩) (fun j=>os.length - j)
   (fun j=>j≤os.length∧r=yH L i (os.drop j)) 0 (by exact aTd) ⟨Nat.zero_le _,hr.symm⟩ ?_
  rintro j ⟨hj,hI⟩
  try dsimp only at hj hI
  by_cases ha:j<os.length
  ·have hd:decide ((j:Int)<(E.length:Int))=true:=by rw[← he];simpa using ha
   have hu:E[j]?=some [.str os[j].1,.int .u8 os[j].2]:=by rw[hE,List.getElem?_eq_getElem ha];rfl
   have hX:yH L i (os.drop j)=if isW L i os[j].1 then os[j].2 else yH L i (os.drop (j+1)):=by rw[List.drop_eq_getElem_cons ha,yH]
   have hw:=wI64 j (by omega);generalize os[j]=o at *;obtain⟨w,op⟩:=o;dsimp only at hX hu;have hm:=hc w;clear hc hE;rw[he] at ha;cases hb:isW L i w with
   |true =>
    rw[hb] at hm;rw[hb,if_pos rfl] at hX;rw[hX] at hI;subst hI;clear hX hr
    (refine gA ?_)
    all_goals refine aK ?_ ?_<;>(first|rfl|(clear F_;simp_all;done))
   |false =>
    rw[hb] at hm;rw[hb,if_neg (by simp)] at hX;have hy:=hI.trans hX;clear hX hI hr
    (refine gA ?_)
    exact zD (j+1) (by omega) ⟨by omega,hy⟩ (by exact aTd)
  obtain rfl:j=os.length:=by omega
  have hd:decide ((os.length:Int)<(E.length:Int))=false:=by rw[← he];simp
  rw[List.drop_length,yH] at hI;have hz:decide ((E.length:Int)<(E.length:Int))=false:=by simp
  subst hI;clear hc hE hr
  (refine gA ?_)
  all_goals refine aK ?_ ?_<;>(first|rfl|(clear F_;simp_all;done))
def RX.o(l:Tree):RX→Out×Heap
 |.ok a i d T=>(.val (.t (.int .i64 (a:Nat))),rd l i d T)
 |.pan e i d T=>(.pan (.t (xD e)),rd l i d T)
def xZ {C:Cfg} {f:FuncId} {fn:Func} {c:Code} {args:List AV} {h:Heap} {x:Out×Heap} (hf:nth C.P.funcs.toList f=some fn) (hb:fn.body=some c)
  (hw:W C h.length fn.ntmps (C.keep f) c ⟨zT 0 args,h⟩ (ends C f fn h.length fun o h'=>(o,h')=x)) (hn:Nat.ble args.length fn.ntmps=true:=by kernel_rfl):Om C f args h=some x:=by
 obtain⟨o,h',h1,h2⟩:=xU hf hb hw hn;rw[h1,h2]
def yGQ {l:Tree} {i d:Nat} {T:List Node} {r:RX} (hg:T≠[]→r.T≠[]) (h:Om CC 254 [.box 0 0,.t (.int .i64 0),.t (.bool true),.t (.sl false false [[.str [111,114],.int .u8 4]])] (rd l i d T)=some (r.o l)) :
  Om CC 223 [.box 0 0] (rd l i d T)=some (r.o l):=by
 (have F_:=c5 zF zG zP zE (c5 zC zB zO zK (c5 zV zU zM zI (c5 yM yL zDs zDg (c2 yDZ zIA)))))
 rcases T with _|⟨t0,T0⟩<;>rcases r with ⟨a,i',d',T'⟩|⟨e,i',d',T'⟩<;>rcases T' with _|⟨t1,T1⟩<;>first|exact absurd rfl (hg (List.cons_ne_nil _ _))|skip
 all_goals simp only[RX.o,rd,rdT,rdR,xD] at h ⊢<;>(try generalize (t0::T0).map Node.c=E0 at *)<;>(try generalize (t1::T1).map Node.c=E1 at *)<;>refine xZ yAU rfl ?_<;>(simp only[zT,List.length_cons,List.length_nil,Nat.zero_add,Nat.reduceAdd];show W CC _ 7 (zA 223) _ _ _)<;>(refine gA ?_)<;>(first|(refine aJ ?_;rfl)|(refine aM ?_;rfl))
def yBj {l:Tree} {i d:Nat} {T:List Node} {r:RX} (hg:T≠[]→r.T≠[]) (h:Om CC 254 [.box 0 0,.t (.int .i64 1),.t (.bool true),.t (.sl false false [[.str [97,110,100],.int .u8 5]])] (rd l i d T)=some (r.o l)) :
  Om CC 224 [.box 0 0] (rd l i d T)=some (r.o l):=by
 (have F_:=c5 zF zG zP zE (c5 zC zB zO zK (c5 zV zU zM zI (c5 yM yL zDs zDg (c2 yDu zIA)))))
 rcases T with _|⟨t0,T0⟩<;>rcases r with ⟨a,i',d',T'⟩|⟨e,i',d',T'⟩<;>rcases T' with _|⟨t1,T1⟩<;>first|exact absurd rfl (hg (List.cons_ne_nil _ _))|skip
 all_goals simp only[RX.o,rd,rdT,rdR,xD] at h ⊢<;>(try generalize (t0::T0).map Node.c=E0 at *)<;>(try generalize (t1::T1).map Node.c=E1 at *)<;>refine xZ yBu rfl ?_<;>(simp only[zT,List.length_cons,List.length_nil,Nat.zero_add,Nat.reduceAdd];show W CC _ 7 (zA 224) _ _ _)<;>(refine gA ?_)<;>(first|(refine aJ ?_;rfl)|(refine aM ?_;rfl))
def zZr {l:Tree} {i d:Nat} {T:List Node} {r:RX} (hg:T≠[]→r.T≠[]) (h:Om CC 254 [.box 0 0,.t (.int .i64 3),.t (.bool false),.t (.sl false false [[.str [61],.int .u8 7],[.str [60,62],.int .u8 8],[.str [60],.int .u8 9],[.str [60,61],.int .u8 10],[.str [62],.int .u8 11],[.str [62,61],.int .u8 12]])] (rd l i d T)=some (r.o l)) :
  Om CC 226 [.box 0 0] (rd l i d T)=some (r.o l):=by
 (have F_:=c5 zF zG zP zE (c5 zC zB zO zK (c5 zV zU zM zI (c5 yM yL zDs zDg (c2 yEl zIA)))))
 rcases T with _|⟨t0,T0⟩<;>rcases r with ⟨a,i',d',T'⟩|⟨e,i',d',T'⟩<;>rcases T' with _|⟨t1,T1⟩<;>first|exact absurd rfl (hg (List.cons_ne_nil _ _))|skip
 all_goals simp only[RX.o,rd,rdT,rdR,xD] at h ⊢<;>(try generalize (t0::T0).map Node.c=E0 at *)<;>(try generalize (t1::T1).map Node.c=E1 at *)<;>refine xZ yA7 rfl ?_<;>(simp only[zT,List.length_cons,List.length_nil,Nat.zero_add,Nat.reduceAdd];show W CC _ 12 (zA 226) _ _ _)<;>(refine gA ?_)<;>(first|(refine aJ ?_;rfl)|(refine aM ?_;rfl))
def zYS {l:Tree} {i d:Nat} {T:List Node} {r:RX} (hg:T≠[]→r.T≠[]) (h:Om CC 254 [.box 0 0,.t (.int .i64 4),.t (.bool true),.t (.sl false false [[.str [43],.int .u8 13],[.str [45],.int .u8 14]])] (rd l i d T)=some (r.o l)) :
  Om CC 227 [.box 0 0] (rd l i d T)=some (r.o l):=by
 (have F_:=c5 zF zG zP zE (c5 zC zB zO zK (c5 zV zU zM zI (c5 yM yL zDs zDg (c2 yF9 zIA)))))
 rcases T with _|⟨t0,T0⟩<;>rcases r with ⟨a,i',d',T'⟩|⟨e,i',d',T'⟩<;>rcases T' with _|⟨t1,T1⟩<;>first|exact absurd rfl (hg (List.cons_ne_nil _ _))|skip
 all_goals simp only[RX.o,rd,rdT,rdR,xD] at h ⊢<;>(try generalize (t0::T0).map Node.c=E0 at *)<;>(try generalize (t1::T1).map Node.c=E1 at *)<;>refine xZ zZ9 rfl ?_<;>(simp only[zT,List.length_cons,List.length_nil,Nat.zero_add,Nat.reduceAdd];show W CC _ 8 (zA 227) _ _ _)<;>(refine gA ?_)<;>(first|(refine aJ ?_;rfl)|(refine aM ?_;rfl))
def zWv {l:Tree} {i d:Nat} {T:List Node} {r:RX} (hg:T≠[]→r.T≠[]) (h:Om CC 254 [.box 0 0,.t (.int .i64 5),.t (.bool true),.t (.sl false false [[.str [42],.int .u8 15],[.str [47],.int .u8 16]])] (rd l i d T)=some (r.o l)) :
  Om CC 228 [.box 0 0] (rd l i d T)=some (r.o l):=by
 (have F_:=c5 zF zG zP zE (c5 zC zB zO zK (c5 zV zU zM zI (c5 yM yL zDs zDg (c2 yE7 zIA)))))
 rcases T with _|⟨t0,T0⟩<;>rcases r with ⟨a,i',d',T'⟩|⟨e,i',d',T'⟩<;>rcases T' with _|⟨t1,T1⟩<;>first|exact absurd rfl (hg (List.cons_ne_nil _ _))|skip
 all_goals simp only[RX.o,rd,rdT,rdR,xD] at h ⊢<;>(try generalize (t0::T0).map Node.c=E0 at *)<;>(try generalize (t1::T1).map Node.c=E1 at *)<;>refine xZ zZ8 rfl ?_<;>(simp only[zT,List.length_cons,List.length_nil,Nat.zero_add,Nat.reduceAdd];show W CC _ 8 (zA 228) _ _ _)<;>(refine gA ?_)<;>(first|(refine aJ ?_;rfl)|(refine aM ?_;rfl))
def yAw {l:Tree} {i d:Nat} {T:List Node} {r:RX} (hg:T≠[]→r.T≠[]) (h:Om CC 255 [.box 0 0,.t (.int .i64 2),.t (.str [110,111,116]),.t (.int .u8 6)] (rd l i d T)=some (r.o l)) :
  Om CC 225 [.box 0 0] (rd l i d T)=some (r.o l):=by
 (have F_:=c5 zF zG zE zC (c5 zB zO zK zV (c5 zU zM zI yM (c3 yL yC6 zVq))))
 rcases T with _|⟨t0,T0⟩<;>rcases r with ⟨a,i',d',T'⟩|⟨e,i',d',T'⟩<;>rcases T' with _|⟨t1,T1⟩<;>first|exact absurd rfl (hg (List.cons_ne_nil _ _))|skip
 all_goals simp only[RX.o,rd,rdT,rdR,xD] at h ⊢<;>(try generalize (t0::T0).map Node.c=E0 at *)<;>(try generalize (t1::T1).map Node.c=E1 at *)<;>refine xZ zZI rfl ?_<;>(simp only[zT,List.length_cons,List.length_nil,Nat.zero_add,Nat.reduceAdd];show W CC _ 5 (zA 225) _ _ _)<;>(refine gA ?_)<;>(first|(refine aJ ?_;rfl)|(refine aM ?_;rfl))
def zTq {l:Tree} {i d:Nat} {T:List Node} {r:RX} (hg:T≠[]→r.T≠[]) (h:Om CC 255 [.box 0 0,.t (.int .i64 6),.t (.str [45]),.t (.int .u8 17)] (rd l i d T)=some (r.o l)) :
  Om CC 229 [.box 0 0] (rd l i d T)=some (r.o l):=by
 (have F_:=c5 zF zG zE zC (c5 zB zO zK zV (c5 zU zM zI yM (c3 yL yF1 zVq))))
 rcases T with _|⟨t0,T0⟩<;>rcases r with ⟨a,i',d',T'⟩|⟨e,i',d',T'⟩<;>rcases T' with _|⟨t1,T1⟩<;>first|exact absurd rfl (hg (List.cons_ne_nil _ _))|skip
 all_goals simp only[RX.o,rd,rdT,rdR,xD] at h ⊢<;>(try generalize (t0::T0).map Node.c=E0 at *)<;>(try generalize (t1::T1).map Node.c=E1 at *)<;>refine xZ zYs rfl ?_<;>(simp only[zT,List.length_cons,List.length_nil,Nat.zero_add,Nat.reduceAdd];show W CC _ 5 (zA 229) _ _ _)<;>(refine gA ?_)<;>(first|(refine aJ ?_;rfl)|(refine aM ?_;rfl))
def zC1 {l:Tree} {i d:Nat} {T:List Node} {r:RX} {n:Int} {f:FuncId} (hb:yY Tryz.prog f=true) (hp:∀x,CC.prim f x=none)
  (hx:index Tryz.prog 262 (.agg [.fn 223 [.box 0 0] [],.fn 224 [.box 0 0] [],.fn 225 [.box 0 0] [],.fn 226 [.box 0 0] [],.fn 227 [.box 0 0] [],.fn 228 [.box 0 0] [],.fn 229 [.box 0 0] [],.fn 230 [.box 0 0] []]) n=some (.fn f [.box 0 0] [])) (hg:T≠[]→r.T≠[]) (h:Om CC f [.box 0 0] (rd l i d T)=some (r.o l)) :
  Om CC 186 [.box 0 0,.t (.int .i64 n)] (rd l i d T)=some (r.o l):=by
 have hG:build Tryz.prog 262 [(0,.fn 223 [.box 0 0] []),(1,.fn 224 [.box 0 0] []),(2,.fn 225 [.box 0 0] []),(3,.fn 226 [.box 0 0] []),(4,.fn 227 [.box 0 0] []),(5,.fn 228 [.box 0 0] []),(6,.fn 229 [.box 0 0] []),(7,.fn 230 [.box 0 0] [])]=some (.agg [.fn 223 [.box 0 0] [],.fn 224 [.box 0 0] [],.fn 225 [.box 0 0] [],.fn 226 [.box 0 0] [],.fn 227 [.box 0 0] [],.fn 228 [.box 0 0] [],.fn 229 [.box 0 0] [],.fn 230 [.box 0 0] []]):=by kernel_rfl
 (have F_:=c5 zF zG zE zC (c5 zB zO zK zV (c5 zU zM yHy zI (c3 yM yL (c2 yET yCg)))))
 rcases T with _|⟨t0,T0⟩<;>rcases r with ⟨a,i',d',T'⟩|⟨e,i',d',T'⟩<;>rcases T' with _|⟨t1,T1⟩<;>first|exact absurd rfl (hg (List.cons_ne_nil _ _))|skip
 all_goals simp only[RX.o,rd,rdT,rdR,xD] at h ⊢<;>(try generalize (t0::T0).map Node.c=E0 at *)<;>(try generalize (t1::T1).map Node.c=E1 at *)<;>refine xZ zZs rfl ?_<;>(simp only[zT,List.length_cons,List.length_nil,Nat.zero_add,Nat.reduceAdd];show W CC _ 25 (zA 186) _ _ _)<;>(refine gA ?_)<;>(first|(refine aJ ?_;rfl)|(refine aM ?_;rfl))
def wlev0{l:Tree}{i d:Nat}{T:List Node}{r:RX}(hg:T≠[]→r.T≠[])(h:Om CC 223 [.box 0 0] (rd l i d T)=some (r.o l)):Om CC 186 [.box 0 0,.t (.int .i64 0)] (rd l i d T)=some (r.o l) :=
 zC1 yE4 (fun x=>zX _ x (by decide)) (by kernel_rfl) hg h
def wlev1{l:Tree}{i d:Nat}{T:List Node}{r:RX}(hg:T≠[]→r.T≠[])(h:Om CC 224 [.box 0 0] (rd l i d T)=some (r.o l)):Om CC 186 [.box 0 0,.t (.int .i64 1)] (rd l i d T)=some (r.o l) :=
 zC1 yDJ (fun x=>zX _ x (by decide)) (by kernel_rfl) hg h
def wlev2{l:Tree}{i d:Nat}{T:List Node}{r:RX}(hg:T≠[]→r.T≠[])(h:Om CC 225 [.box 0 0] (rd l i d T)=some (r.o l)):Om CC 186 [.box 0 0,.t (.int .i64 2)] (rd l i d T)=some (r.o l) :=
 zC1 yEY (fun x=>zX _ x (by decide)) (by kernel_rfl) hg h
def wlev3{l:Tree}{i d:Nat}{T:List Node}{r:RX}(hg:T≠[]→r.T≠[])(h:Om CC 226 [.box 0 0] (rd l i d T)=some (r.o l)):Om CC 186 [.box 0 0,.t (.int .i64 3)] (rd l i d T)=some (r.o l) :=
 zC1 yCe (fun x=>zX _ x (by decide)) (by kernel_rfl) hg h
def wlev4{l:Tree}{i d:Nat}{T:List Node}{r:RX}(hg:T≠[]→r.T≠[])(h:Om CC 227 [.box 0 0] (rd l i d T)=some (r.o l)):Om CC 186 [.box 0 0,.t (.int .i64 4)] (rd l i d T)=some (r.o l) :=
 zC1 yHf (fun x=>zX _ x (by decide)) (by kernel_rfl) hg h
def wlev5{l:Tree}{i d:Nat}{T:List Node}{r:RX}(hg:T≠[]→r.T≠[])(h:Om CC 228 [.box 0 0] (rd l i d T)=some (r.o l)):Om CC 186 [.box 0 0,.t (.int .i64 5)] (rd l i d T)=some (r.o l) :=
 zC1 yCa (fun x=>zX _ x (by decide)) (by kernel_rfl) hg h
def wlev6{l:Tree}{i d:Nat}{T:List Node}{r:RX}(hg:T≠[]→r.T≠[])(h:Om CC 229 [.box 0 0] (rd l i d T)=some (r.o l)):Om CC 186 [.box 0 0,.t (.int .i64 6)] (rd l i d T)=some (r.o l) :=
 zC1 yGM (fun x=>zX _ x (by decide)) (by kernel_rfl) hg h
def wlev7{l:Tree}{i d:Nat}{T:List Node}{r:RX}(hg:T≠[]→r.T≠[])(h:Om CC 230 [.box 0 0] (rd l i d T)=some (r.o l)):Om CC 186 [.box 0 0,.t (.int .i64 7)] (rd l i d T)=some (r.o l) :=
 zC1 yEh (fun x=>zX _ x (by decide)) (by kernel_rfl) hg h
def zSP {nl cl:Bool} {L:List Tok} {i d:Nat} {T:List Node} {r:RX} {n:Nat} {w:List Nat} {op:Int} (hn:n<10) (hw:isW L i w=false) (hg:T≠[]→r.T≠[])
  (h:Om CC 186 [.box 0 0,.t (.int .i64 ((n+1:Nat):Int))] (rd (.sl nl cl (L.map Tok.c)) i d T)=some (r.o (.sl nl cl (L.map Tok.c)))) :
  Om CC 255 [.box 0 0,.t (.int .i64 (n:Int)),.t (.str w),.t (.int .u8 op)] (rd (.sl nl cl (L.map Tok.c)) i d T)=some (r.o (.sl nl cl (L.map Tok.c))):=by
 have h1:=qP nl cl L i d T w;rw[hw] at h1;clear hw;have h2:=wI64 n (by omega);generalize Tree.sl nl cl (L.map Tok.c)=l at *
 (have F_:=c5 zF zG zP zE (c5 zC zB zO zK (c5 zV zU zM zI (c5 yM yL zL6 vA qH))))
 rcases T with _|⟨t0,T0⟩<;>rcases r with ⟨a,i',d',T'⟩|⟨e,i',d',T'⟩<;>rcases T' with _|⟨t1,T1⟩<;>first|exact absurd rfl (hg (List.cons_ne_nil _ _))|skip
 all_goals simp only[RX.o,rd,rdT,rdR,xD] at h h1 ⊢<;>(try generalize (t0::T0).map Node.c=E0 at *)<;>(try generalize (t1::T1).map Node.c=E1 at *)<;>refine xZ zJA rfl ?_<;>(simp only[zT,List.length_cons,List.length_nil,Nat.zero_add,Nat.reduceAdd];show W CC _ 47 (zA 255) _ _ _)<;>(refine gA ?_)<;>(first|(refine aJ ?_;rfl)|(refine aM ?_;rfl))
def zQf {nl cl:Bool} {L:List Tok} {i:Nat} {T:List Node} {n:Nat} {w:List Nat} {op:Int} (hn:n<10) (hw:isW L i w=true) :
  Om CC 255 [.box 0 0,.t (.int .i64 (n:Int)),.t (.str w),.t (.int .u8 op)] (rd (.sl nl cl (L.map Tok.c)) i 12 T)=some ((RX.pan 12 i 12 T).o (.sl nl cl (L.map Tok.c))):=by
 have h1:=qP nl cl L i 12 T w;have h2:=zF8 nl cl L i 12 T;rw[hw] at h1;clear hw;have h3:=zKI (.sl nl cl (L.map Tok.c)) i T;generalize Tree.sl nl cl (L.map Tok.c)=l at *
 (have F_:=c5 zF zG zP zE (c5 zC zB zO zK (c5 zV zU zM zI (c5 yM yL zL6 vA (c2 zH6 kG)))))
 rcases T with _|⟨t0,T0⟩
 all_goals simp only[RX.o,rd,rdT,rdR,xD] at h1 h2 h3 ⊢<;>(try generalize (t0::T0).map Node.c=E0 at *)<;>refine xZ zJA rfl ?_<;>(simp only[zT,List.length_cons,List.length_nil,Nat.zero_add,Nat.reduceAdd];show W CC _ 47 (zA 255) _ _ _)<;>(refine gA ?_)<;>(first|(refine aJ ?_;rfl)|(refine aM ?_;rfl))
def zSv {nl cl:Bool} {L:List Tok} {i d i' d':Nat} {T T':List Node} {n:Nat} {w:List Nat} {op e:Int} (hn:n<10) (hd:d<12) (hi:i<9223372036854775807) (hw:isW L i w=true) (hg:T≠[]→T'≠[])
  (h:Om CC 186 [.box 0 0,.t (.int .i64 (n:Int))] (rd (.sl nl cl (L.map Tok.c)) (i+1) (d+1) T)=some ((RX.pan e i' d' T').o (.sl nl cl (L.map Tok.c)))) :
  Om CC 255 [.box 0 0,.t (.int .i64 (n:Int)),.t (.str w),.t (.int .u8 op)] (rd (.sl nl cl (L.map Tok.c)) i d T)=some ((RX.pan e i' d' T').o (.sl nl cl (L.map Tok.c))):=by
 have h1:=qP nl cl L i d T w;have h2:=zF8 nl cl L i d T;rw[hw] at h1;clear hw;have h3:=zDV (.sl nl cl (L.map Tok.c)) i d T hd;have h4:=wI64 i (by omega);generalize Tree.sl nl cl (L.map Tok.c)=l at *
 (have F_:=c5 zF zG zP zE (c5 zC zB zO zK (c5 zV zU zM zI (c5 yM yL zL6 vA (c3 zH6 kG qH)))))
 rcases T with _|⟨t0,T0⟩<;>rcases T' with _|⟨t1,T1⟩<;>first|exact absurd rfl (hg (List.cons_ne_nil _ _))|skip
 all_goals simp only[RX.o,rd,rdT,rdR,xD] at h h1 h2 h3 ⊢<;>(try generalize (t0::T0).map Node.c=E0 at *)<;>(try generalize (t1::T1).map Node.c=E1 at *)<;>refine xZ zJA rfl ?_<;>(simp only[zT,List.length_cons,List.length_nil,Nat.zero_add,Nat.reduceAdd];show W CC _ 47 (zA 255) _ _ _)<;>(refine gA ?_)<;>(first|(refine aJ ?_;rfl)|(refine aM ?_;rfl))
def zS8 {nl cl:Bool} {L:List Tok} {i d a i':Nat} {T T':List Node} {n:Nat} {w:List Nat} {op:Int} (hn:n<10) (hd:d<12) (hi:i<9223372036854775807) (hw:isW L i w=true) (hg:T'≠[]) (hl:T'.length<4294967295)
  (h:Om CC 186 [.box 0 0,.t (.int .i64 (n:Int))] (rd (.sl nl cl (L.map Tok.c)) (i+1) (d+1) T)=some ((RX.ok a i' (d+1) T').o (.sl nl cl (L.map Tok.c)))) :
  Om CC 255 [.box 0 0,.t (.int .i64 (n:Int)),.t (.str w),.t (.int .u8 op)] (rd (.sl nl cl (L.map Tok.c)) i d T)=some ((RX.ok T'.length i' d (T'++[xL op VZ [] [(a:Int)] (plW L i)])).o (.sl nl cl (L.map Tok.c))):=by
 have h1:=qP nl cl L i d T w;have h2:=zF8 nl cl L i d T;rw[hw] at h1;clear hw;have h3:=zDV (.sl nl cl (L.map Tok.c)) i d T hd;have h4:=wI64 i (by omega);have h5:IntKind.i64.wrap (((d+1:Nat):Int) - 1)=(d:Int):=by rw[wrap64]<;>omega
 have h6:=zBO (.sl nl cl (L.map Tok.c)) i' d T' op 0 0 [] [] (.sl true true []) ⟨false,false,[(a:Int)]⟩ (plW L i).1 (plW L i).2 hl;have h7:T'++[xL op VZ [] [(a:Int)] (plW L i)]=T'++[⟨op,⟨0,0,[]⟩,[],⟨false,false,[(a:Int)]⟩,(plW L i).1,(plW L i).2⟩]:=rfl;rw[h7];clear h7;generalize Tree.sl nl cl (L.map Tok.c)=l at *;generalize (plW L i).1=p1 at *;generalize (plW L i).2=p2 at *;rcases T' with _|⟨t1,T1⟩
 ·exact absurd rfl hg
 generalize hN:(⟨op,⟨0,0,[]⟩,[],⟨false,false,[(a:Int)]⟩,p1,p2⟩:Node)=N at *;rw[List.cons_append] at h6 ⊢;simp only[Sl.t,intC,List.map_cons,List.map_nil] at h6;generalize hh:(t1::T1).length=len at *
 (have F_:=c5 zF zG zP zE (c5 zC zB zO zK (c5 zV zU zM zI (c5 yM yL zL6 vA (c3 zH6 kG (c2 qH jC))))))
 rcases T with _|⟨t0,T0⟩
 all_goals simp only[RX.o,rd,rdT,rdR,xD] at h h1 h2 h3 h6 ⊢<;>(try generalize (t0::T0).map Node.c=E0 at *)<;>generalize (t1::T1).map Node.c=E1 at *<;>generalize (t1::(T1++[N])).map Node.c=E2 at *<;>clear hh hN<;>refine xZ zJA rfl ?_<;>(simp only[zT,List.length_cons,List.length_nil,Nat.zero_add,Nat.reduceAdd];show W CC _ 47 (zA 255) _ _ _)<;>(refine gA ?_)<;>(first|(refine aJ ?_;rfl)|(refine aM ?_;rfl))
end Go.Ab
