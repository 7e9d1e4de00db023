/- Lemmas. -/
import Derived.Test.YtchgjnkleakhoaaGreatDoorG33
set_option maxRecDepth 1000000
set_option maxHeartbeats 40000000
set_option linter.all false
namespace Go.Ab
open Go.Proofs
attribute [local irreducible] W RW RR
def zDA(T:List Test)(r:List Nat×Int):Prop:=r.2=0→T.length≤30
def uwS(a b:Bool)(l:List (List Tree))(len:Nat)(x:Nat×List (List Nat)×List Nat):St :=
 ⟨[(0,.t (.sl a b l)),(4,.hs 0 0),(5,.t (.str x.2.2)),(17,.t (.int .i64 (len:Int))),(18,.t (.int .i64 (x.1:Int)))],[.arr 1 0 false (x.2.1.map sC)]⟩
structure UwI (T:List Test) (x:Nat×List (List Nat)×List Nat):Prop where
 i:x.1≤T.length
 len:x.2.1.length=T.length
 le:∀s ∈ x.2.1,s.length≤65536
 last:x.2.2.length≤65536∧Byt x.2.2
def xa9:=c5 zF zG zQ zE (c5 zD zI yM zB (c5 xC zO zL yL (c5 zN zU zXI zXB (c2 zNN zNH))))
def zTY (a b:Bool) (T:List Test) (hP:∀x ∈ T,PTest x) :
  ∃r:List Nat×Int,Om CC 27 [.t (.sl a b (T.map Test.c))] []=some (.val (.tup [.t (.str r.1),.t (.int .i64 r.2)]),[])∧zDA T r:=by
 have hml:(T.map Test.c).length=T.length:=List.length_map ..;refine zJ yDK rfl ?_
 by_cases h6:30<T.length
 ·have hd:decide (((T.map Test.c).length:Int) > 30)=true:=by rw[hml];simp;omega
  have hU:zDA T ([],4):=fun h=>(by cases h)
  generalize zDA T=UP at *;have hU:=Hid.mk hU;generalize T.map Test.c=l at *;clear hP hml h6
  (have F_:=xa9;show W CC 0 48 (zA 27) _ ⟨[(0,_)],[]⟩ _)
  (refine gA ?_)
  all_goals refine aJ ?_<;>exact⟨(_,_),⟨rfl,rfl⟩,hU.h⟩
 have hd:decide ((T.length:Int) > 30)=false:=by simp;omega
 have hmk:=fun nid=>@mk50 T.length (by omega) nid
 have hU:∀r,zDA T r→zDA T r:=fun r h=>h
 (have F_:=xa9;show W CC 0 48 (zA 27) _ ⟨[(0,_)],[]⟩ _)
 generalize hl:T.map Test.c=l at *;generalize hE:(List.replicate T.length ([]:List Nat)).map sC=E at *
 (refine gA ?_)
 subst hE;subst hl;clear hmk hml;refine zY (uwS a b (T.map Test.c) T.length) (fun x=>T.length - x.1) (UwI T) (0,List.replicate T.length [],[]) (by simp only[uwS];exact aTd) ⟨Nat.zero_le _,by simp,fun s hs=>by rw[(List.mem_replicate.1 hs).2];simp,⟨by simp,Byt.nil⟩⟩ ?_;rintro⟨i,X,last⟩ ⟨hi,hX,hs,⟨hl1,hl2⟩⟩;dsimp only at hi hX hs hl1 hl2;simp only[uwS]
 by_cases hi':i<T.length
 ·have hw':IntKind.i64.wrap ((i:Int)+1)=((i+1:Nat):Int):=by rw[wrap64]<;>omega
  have hd1:decide ((i:Int)<(T.length:Int))=true:=by simpa using hi'
  obtain⟨x,hx⟩:∃x,T[i]?=some x:=⟨_,List.getElem?_eq_getElem hi'⟩;obtain⟨s,hwn,hsb,hsu⟩:=zPa a b T X i x hx hX hs (hP x (List.mem_of_getElem? hx));have l0:((0:Int)≤(i:Int))=True:=by simp
  have l1:((i:Int)<(((X.map sC).length:Nat):Int))=True:=by have:i<X.length:=(by omega);simpa using this
  by_cases hq:65536<s.length
  ·have hd2:decide (((s.length:Nat):Int) > 65536)=true:=by simp;omega
   have hUx:zDA T ([],4):=fun h=>(by cases h)
   generalize zDA T=UP at *;have hUx:=Hid.mk hUx;generalize X.map sC=E at *;generalize T.map Test.c=l at *;clear hs hP hX hx hi hi' hU hsu hsb hl1 hl2 hq h6
   (refine gA ?_)
   all_goals refine aJ ?_<;>exact⟨(_,_),⟨rfl,rfl⟩,hUx.h⟩
  have hd2:decide (((s.length:Nat):Int) > 65536)=false:=by simp;omega
  have hag:Hid _:=⟨(⟨hi',(List.length_set ..).trans hX,fun y hy=>(by rcases List.mem_or_eq_of_mem_set hy with h|rfl;exact hs y h;omega),⟨by dsimp only;omega,hsb⟩⟩:UwI T (i+1,X.set i s,s))⟩
  have hXs:Hid _:=⟨show (X.set i s).map sC=(X.map sC).set i [.str s] from List.map_set⟩
  obtain⟨s0,hs0⟩:∃s0,X[i]?=some s0:=⟨_,List.getElem?_eq_getElem (by omega)⟩;have hSn:nth (X.map sC) i=some [.str s0]:=by rw[yP,List.getElem?_map,hs0];rfl
  generalize X.map sC=E at *;generalize hl:T.map Test.c=l at *;clear hs hP hX hx hi hU hsu hsb hl1 hl2 hs0 h6
  (have x0_:=@qB.eq_1;(refine gA ?_);all_goals clear x0_)
  exact zC (i+1,X.set i s,s) (by dsimp only;omega) hag.h (by simp only[uwS];rw[hXs.h];(have X_:=@qP;exact aTdX))
 have hd1:decide ((i:Int)<(T.length:Int))=false:=by simpa using hi'
 obtain rfl:i=T.length:=by omega
 obtain⟨T2,p,e,hr,hT,hN⟩:=zNv zRu zPq last hl2 hl1;have hsm:e=0→Om CC 39 [.t (.sl a b (T.map Test.c)),.t (zAW T2)] []=some (.val (.t (.bool (eqBy zAr T T2))),[]):=fun h=>zM7 a b T2.isEmpty T2.isEmpty T T2 (by omega) (fun y hy=>(hP y hy).len)
 have hUx:zDA T (if e=0∧eqBy zAr T T2=true then (last,0) else ([],4)):=fun _=>(by omega)
 generalize zDA T=UP at *;have hUx:=Hid.mk hUx;simp only[zAW] at hr hsm;generalize eqBy zAr T T2=S at *;generalize X.map sC=E at *;generalize T.map Test.c=l at *;generalize T2.map Test.c=l2 at *;generalize T2.isEmpty=te at *;clear hs hP hX hi hi' hU hl1 hl2 hT hN h6
 by_cases he:e=0
 ·have hsm:=hsm he;subst he;cases S
  all_goals
   (refine gA ?_)
   ((refine aJ ?_))
   exact⟨(_,_),⟨rfl,rfl⟩,by simpa using hUx.h⟩
 have he':(e != 0)=true:=by simpa using he
 clear hsm
 (refine gA ?_)
 ((refine aJ ?_))
 exact⟨(_,_),⟨rfl,rfl⟩,by simpa [he] using hUx.h⟩
def zX2 {a b:Bool} {T:List Test} {r:List Nat×Int} (h:Om CC 27 [.t (.sl a b (T.map Test.c))] []=some (.val (.tup [.t (.str r.1),.t (.int .i64 r.2)]),[])) :
  Om CC 20 [.t (.sl a b (T.map Test.c))] []=some (.val (.t (.bool (r.2==0))),[]):=by
 refine zK yCk rfl ?_;generalize T.map Test.c=l at *
 (have F_:=c5 zF zG zQ zE (c5 zD zI yM zB (c5 zO zL yL zN (c3 zU yG1 yG2)));show W CC 0 12 (zA 20) _ ⟨[(0,_)],[]⟩ _)
 (refine gA ?_)
 all_goals (refine aK ?_ ?_)<;>(rfl)
end Go.Ab
