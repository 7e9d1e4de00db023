/- Lemmas. -/
import Derived.Test.YtdbfacakphncfaaGreatDoorG09
import Derived.Test.YtdbfacakphncfaaGreatDoorG10
set_option maxRecDepth 1000000
set_option maxHeartbeats 40000000
set_option linter.all false
namespace Go.Ab
open Go.Proofs
def yDB{nl cl:Bool}{L:List Tok}(hL:L.length<4000000000):∀(f m i d:Nat) (T:List Node) (r:RX),m≤7→PX L f (.lev m) i d T=some r→i≤L.length→d≤12→T.length+(L.length - i)≤4000000000 →
  Om CC 186 [.box 0 0,.t (.int .i64 (m:Int))] (rd (.sl nl cl (L.map Tok.c)) i d T)=some (r.o (.sl nl cl (L.map Tok.c))):=by
 intro f
 induction f using Nat.strongRecOn with
 |_ f ih =>
  intro m i d T r hm h hi hd hB;have hV:∀k,k≤7→∀f',f'≤f→LevH nl cl L k f':=fun k hk f' hf g hg i d T r h hi hd hB=>ih g (by omega) k i d T r hk h hi hd hB
  have h0:=zAV _ _ _ _ _ _ h;have hu:=zBb h0;rcases f with _|f
  ·simp [PX] at h
  have hz:∀n,(n=0∨n=1∨n=3∨n=4∨n=5)→PX L (f+1) (.lev n) i d T=some r →
    Om CC 254 [.box 0 0,.t (.int .i64 (n:Int)),.t (.bool (zFQ n)),.t (.sl false false ((opsX n).map opsC))] (rd (.sl nl cl (L.map Tok.c)) i d T)=some (r.o (.sl nl cl (L.map Tok.c))) :=
   fun n hn h=>yAF hn (by omega) (hV (n+1) (by omega) (f+1) (Nat.le_refl _)) h hi hd hB
  have hA:∀n,(n=2∨n=6)→PX L (f+1) (.lev n) i d T=some r →
    Om CC 255 [.box 0 0,.t (.int .i64 (n:Int)),.t (.str (wX n)),.t (.int .u8 (oX n))] (rd (.sl nl cl (L.map Tok.c)) i d T)=some (r.o (.sl nl cl (L.map Tok.c))):=by
   intro n hn h;rw[PX,if_pos hn] at h;cases hw:isW L i (wX n) with
   |false =>
    rw[hw,if_neg (by simp)] at h;exact zSP (by omega) hw hu (ih f (by omega) (n+1) i d T r (by omega) h hi hd hB)
   |true =>
    rw[hw,if_pos rfl] at h;have hJ:=zY hw
    by_cases ha:d=12
    ·rw[if_pos ha] at h;cases h;subst ha;exact zQf (by omega) hw
    rw[if_neg ha] at h;cases h1:PX L f (.lev n) (i+1) (d+1) T with
    |none=>rw[h1] at h;cases h
    |some r1 =>
     have hk:=xO _ _ _ _ _ _ h1 (by omega) (by omega) trivial;have hF:=zBb (zAV _ _ _ _ _ _ h1);have hc:=ih f (by omega) n (i+1) (d+1) T r1 (by omega) h1 (by omega) (by omega) (by omega);rw[h1] at h;cases r1 with
     |pan e i1 d1 T1=>cases h;exact zSv (by omega) (by omega) (by omega) hw hF hc
     |ok a i1 d1 T1 =>
      obtain⟨k1,k2,k3,k4,k5⟩:=hk;simp only[Cmd.dt] at k3;subst k3;dsimp only at h;rw[Nat.add_sub_cancel] at h;cases h;exact zS8 (by omega) (by omega) (by omega) hw (fun hh=>by rw[hh] at k5;simp at k5) (by omega) hc
  have h8:m=0∨m=1∨m=2∨m=3∨m=4∨m=5∨m=6∨m=7:=by omega
  rcases h8 with rfl|rfl|rfl|rfl|rfl|rfl|rfl|rfl
  ·exact wlev0 hu (yGQ hu (hz 0 (by omega) h))
  ·exact wlev1 hu (yBj hu (hz 1 (by omega) h))
  ·exact wlev2 hu (yAw hu (hA 2 (by omega) h))
  ·exact wlev3 hu (zZr hu (hz 3 (by omega) h))
  ·exact wlev4 hu (zYS hu (hz 4 (by omega) h))
  ·exact wlev5 hu (zWv hu (hz 5 (by omega) h))
  ·exact wlev6 hu (zTq hu (hA 6 (by omega) h))
  refine wlev7 hu ?_;rw[PX,if_neg (by omega),if_neg (by omega)] at h;cases ht:L[i]? with
  |none =>
   rw[ht] at h;cases h;exact zUC (by rcases Nat.lt_or_ge i L.length with h'|h';(· rw[List.getElem?_eq_getElem h'] at ht;cases ht);exact h')
  |some t =>
   have hJ:=getElem?_lt ht;rw[ht] at h;dsimp only at h;split at h
   ·rename_i hk;cases h;exact zUI ht (by omega) (by omega) hk
   rename_i kg;split at h
   ·rename_i hk;cases h;exact zVd ht (by omega) (by omega) hk
   rename_i kh;split at h
   ·rename_i hk;cases h;exact zR6 ht (by omega) (by omega) hk
   rename_i ki;split at h
   ·rename_i hk;cases hc:xT t.s uK with
    |some x =>
     obtain⟨op,least,h5⟩:=x;rw[hc] at h;dsimp only at h;cases hw:isW L (i+1) [40] with
     |false =>
      rw[hw,if_neg (by simp)] at h;cases h;exact zGY ht hk hc hu (zXj (p:=(t.line,t.col)) (by omega) hw)
     |true =>
      rw[hw,if_pos rfl] at h;have h6:=zY hw
      by_cases ha:d=12
      ·rw[if_pos ha] at h;cases h;subst ha;exact zGY ht hk hc hu (zSq (p:=(t.line,t.col)) (by omega) hw)
      rw[if_neg ha] at h;exact zGY ht hk hc hu (zXo (p:=(t.line,t.col)) hL (hV 0 (by omega) f (by omega)) h hw (by omega) (by omega) (by omega))
    |none =>
     rw[hc] at h;dsimp only at h;cases hv:xT t.s zAj with
     |some v =>
      rw[hv] at h;cases h;exact zR5 ht (by omega) (by omega) hk hc hv
     |none =>
      rw[hv] at h;cases h;exact zOB ht hk hc hv
   rename_i kj;have hG:t.k≠4∧t.k≠5∧t.k≠6∧t.k≠2∧t.k≠3∧t.k≠1:=by omega
   cases hw:isW L i [40] with
   |false =>
    rw[hw,if_neg (by simp)] at h;cases h;exact zR1 (i':=0) (d':=0) (a:=0) (T':=[]) (e:=0) ht (by omega) hG hw
   |true =>
    rw[hw,if_pos rfl] at h
    by_cases ha:d=12
    ·rw[if_pos ha] at h;cases h;exact zR9 (i':=0) (d':=0) (a:=0) (T':=[]) (e:=0) ht (by omega) hG hw ha
    rw[if_neg ha] at h;cases h1:PX L f (.lev 0) (i+1) (d+1) T with
    |none=>rw[h1] at h;cases h
    |some r1 =>
     have hk:=xO _ _ _ _ _ _ h1 (by omega) (by omega) trivial;have hF:=zBb (zAV _ _ _ _ _ _ h1);have hc:=ih f (by omega) 0 (i+1) (d+1) T r1 (by omega) h1 (by omega) (by omega) (by omega);rw[h1] at h;cases r1 with
     |pan e i1 d1 T1=>cases h;exact zTr (a:=0) ht (by omega) hG hw (by omega) hF hc
     |ok a i1 d1 T1 =>
      obtain⟨k1,k2,k3,k4,k5⟩:=hk;simp only[Cmd.dt] at k3;subst k3;dsimp only at h;cases hD:isW L i1 [41] with
      |false =>
       rw[hD,if_neg (by simp)] at h;cases h;exact zSu (d':=0) (e:=0) ht (by omega) hG hw (by omega) hF hc hD
      |true =>
       rw[hD,if_pos rfl,Nat.add_sub_cancel] at h;cases h;exact zU0 (d':=0) (e:=0) ht (by omega) hG hw (by omega) hF hc hD (by omega)
attribute [local irreducible] W RW RR
def zMw {C:Cfg} {m k:Nat} {keep:Nat→Option (List Nat)} {st:St} {u:Pn} {Q:Ex→St→Pn→Prop} {id d:Nat} {o:Oper} (hq:Q .normal ⟨(d,.t (recovered u).1)::st.T,st.h⟩ (recovered u).2) (ho:zAS o=true:=by rfl) (hg:o.guard=none:=by rfl) (hd:o.dst=some d:=by rfl)
  (hk:uQ k [o]=true:=by kernel_rfl):WS C m k keep (.region id #[o] false) st u Q:=by
 refine zU9 (by simp [ho]) hk (T:=(d,.t (recovered u).1)::st.T) (h:=st.h) (u':=(recovered u).2) ?_ hq;have hw:wanted [o] st.T o=some true:=by unfold wanted;rw[hg]
 show qB C (Om C) [o] [o] st.T st.h u=_
 rw[qB,hw];dsimp only;rw[ho];dsimp only;rw[qB,hd]
 rfl
def xaJ:=c5 zF zG zE zC (c5 zOp zB zO zK (c5 zR zV zU zM (c5 zI yM yL wP zUJ)))
def zJK(ids:Nat×Nat×Nat×Nat)(h:Heap)(hc:canon h h.length []=some ([],h)) :
  Om CC (xG+185) (.t .nilptr::[.box ids.1 0,.box ids.2.1 0,.box ids.2.2.1 0,.box ids.2.2.2 0]) h=some (.val (.t .nilptr),h):=by
 obtain⟨u',h',h1,h2,h3⟩:=zHr (C:=CC) (g:=185) (fn:=Tryz.f185) (u:=none) (args:=[.box ids.1 0,.box ids.2.1 0,.box ids.2.2.1 0,.box ids.2.2.2 0]) (h:=h)
  (R:=fun u h'=>u=none∧h'=h) (by kernel_rfl) (by kernel_rfl) zRb rfl (by kernel_rfl) rfl (by
  (have F_:=xaJ)
  have u20:und Tryz.prog 20=some (.interface #[]):=by kernel_rfl
  have xa:=zRq 227;have bq:Nat.beq 227 227=true:=rfl;rw[bq] at xa
  show WS CC _ 18 (zA 185) _ _ _ _
  refine zLg rfl (zMw ?_)
  show W CC _ _ _ _ _ _
  simp only[recovered,zT,Nat.zero_add,Nat.reduceAdd]
  (refine gA ?_)
  exact⟨.inl rfl,by kernel_rfl,⟨.tup [],by kernel_rfl⟩,h,hc,rfl,rfl⟩)
 subst h2 h3;exact h1
def zMh (tv v4:AV) (l:Tree) (i d n5 n6 e:Int) (hy:Heap) (k1 k2 k3:Nat) (h7:(tv=.t (.sl true true [])∧hy=[]∧k1=2)∨∃E,tv=.hs 2 0∧hy=[.arr 8 0 false E]∧k1=3) :
  Om CC (xG+185) (.agg [.t (xD e),.t (.bool false)]::[.box 0 0,.box k1 0,.box (k1+1) 0,.box (k1+2) 0]) ([.box [.box 1 0],.box [.t l,.t (.int .i64 i),.t (.int .i64 d),tv]]++hy++[.box [.t (.sl true true [])],.box [.t (.int .i64 n5)],.box [.t (.int .i64 n6)]])
   = some (.val (.t .nilptr),[.box [.box 1 0],.box [.t l,.t (.int .i64 i),.t (.int .i64 d),tv]]++hy++[.box [.t (.sl true true [])],.box [.t (.int .i64 i)],.box [.t (.int .i64 e)]]):=by
 obtain⟨u',h',h1,h2,h3⟩:=zHr (C:=CC) (g:=185) (fn:=Tryz.f185) (u:=some (xD e,false)) (args:=[.box 0 0,.box k1 0,.box (k1+1) 0,.box (k1+2) 0]) (h:=[.box [.box 1 0],.box [.t l,.t (.int .i64 i),.t (.int .i64 d),tv]]++hy++[.box [.t (.sl true true [])],.box [.t (.int .i64 n5)],.box [.t (.int .i64 n6)]])
  (R:=fun u h'=>u=none∧h'=[.box [.box 1 0],.box [.t l,.t (.int .i64 i),.t (.int .i64 d),tv]]++hy++[.box [.t (.sl true true [])],.box [.t (.int .i64 i)],.box [.t (.int .i64 e)]]) (by kernel_rfl) (by kernel_rfl) zRb rfl (by kernel_rfl) rfl (by
  (have F_:=xaJ)
  have u20:und Tryz.prog 20=some (.interface #[]):=by kernel_rfl
  have xa:=zRq 227;have bq:Nat.beq 227 227=true:=rfl;rw[bq] at xa;rcases h7 with ⟨rfl,rfl,rfl⟩|⟨E,rfl,rfl,rfl⟩
  all_goals (show WS CC _ 18 (zA 185) _ _ _ _)<;>refine zLg rfl (zMw ?_)<;>(show W CC _ _ _ _ _ _)<;>simp only[recovered,zT,Nat.zero_add,Nat.reduceAdd,List.append_nil,List.cons_append,List.nil_append,List.length_cons,List.length_nil,xD]<;>(refine gA ?_)
  all_goals exact⟨.inl rfl,by kernel_rfl,⟨.tup [],by kernel_rfl⟩,_,by kernel_rfl,rfl,rfl⟩)
 subst h2 h3;exact h1
def zXA {C:Cfg} {f:FuncId} {fn:Func} {m:Nat} {g:FuncId} {cap ds:List AV} {u u':Pn} {T:Env} {h:Heap} {v:AV} {p:Patch} {r:Option (Out×Heap)} (hl:leave C (Om C) f fn m ds u' T (patch h p)=r) (hb:yY C.P g=true:=by kernel_rfl)
  (hc:vY (Om C) (nth h) [] h.length (xG+g) (pnAV u::([]++cap))=some (.val v,p):=by(simp only[pnAV,beq_true,beq_false,Bool.true_beq,Bool.false_beq,decide_true,decide_false,Int.ofNat_eq_natCast,List.length_map,List.getElem?_map,Option.map_some,wanted,exec1,zBQ,jB,xBox,jM,vH,xLen,kD,uC,wG,jH,cellsOf,zN,opds,kI,get,putT,ret,retO,lit,lit1,patch,put1,load,loadCells,cut,yC,mkAgg,trees,nth,lenOf,indexAddr,storeAt,upd,splice,vZ,uT,zBe,jF,kY,zAH,zAs,zAq,qT,qO,kW,convert,zAu,zAw,zAo,zAn,zBv,zAN,zAC,zAM,zAk,zAl,zAD,qQ,zAJ,zAA,zAy,zAE,zAF,zAt,zAm,zAI,jD,jO,Nat.beq,beq_self_eq_true,Nat.zero_add,Nat.add_zero,List.toList_toArray,List.map_cons,List.map_nil,List.length_cons,List.length_nil,List.take,List.drop,List.all_cons,List.all_nil,List.cons_append,List.nil_append,List.append_nil,Bool.and_true,Bool.true_and,Bool.not_true,Bool.not_false,Bool.and_self,if_true,if_false,reduceIte,Nat.reduceAdd,Nat.reduceLeDiff,Nat.reduceEqDiff,Sl.t,Val.c,Slot.c,Tpl.c,Fact.c,Bind.c,Node.c,Test.c,STest.c,Pat.c,intC,and_self,true_and,and_true,b00,b01,b02,b03,b04,b10,b11,b12,b13,b14,b20,b21,b22,b23,b24,b30,b31,b32,b33,b34,b40,b41,b42,b43,b44,jL,vY,reach,wT,refs,vS,catMap,depth,sub,sub1,renL,ren,renO,mem,place,fresh,xM,plain,zBm,back,zC3,zB4,vE,Way.id,Way.ver,vN,zCq,getN,view,yO,xF,zCy,zX,ne_eq,not_false_eq_true,cond_true,cond_false,zB6,Option.getD_some,elems,yN,wU,xA,wI,wI.go,zAf,qJ,setN,List.replicate,Nat.mul_one,Nat.reduceMul,Nat.reduceLT,append,added,lens,jQ,zCf,zDc,zFx,zEz,mfind,kQ,zAP,UInt8.reduceToNat,zBE,Ab.bound,Int.toNat_natCast,bne_self_eq_false,true_or,Nat.reduceLT,one1,zAO,deferred,kM,yK,zBw,kT,zBB,qV,qA,vT,zCe,zCu,zD4,zD6,uY,Bool.or_true,Bool.or_false,Bool.true_or,Bool.false_or, *];exact rfl)) (hv:avPn v=some u':=by exact rfl):leave C (Om C) f fn m (.fn g [] cap::ds) u T h=r:=by
 rw[leave,hb];dsimp only;rw[hc];dsimp only;rw[hv];exact hl
def zVh {C:Cfg} {f:FuncId} {fn:Func} {m:Nat} {T:Env} {h h':Heap} {v v':AV} (h1:results C.P fn ⟨T,h⟩=some v:=by(simp only[patch,put1,zBe,results,qC,zAZ,Ab.get,Nat.beq,load,loadCells,nth,cut,mkAgg,trees,Option.map_some,List.map_cons,List.map_nil,List.length_cons,List.length_nil,List.take,List.drop,Nat.zero_add,Nat.add_zero,Nat.reduceAdd,Nat.reduceLeDiff,if_true,F_, *];exact rfl))
  (h2:yW C f m v h=some (v',h'):=by(first|exact uW _ _ _ _|exact kN _ _ _ _ _|exact kP _ _ _ _ _ _|(simp only[patch,put1,yW,kR,uX,yO,view,elems,xF,patch,put1,catMap,canon,reach,wT,refs,vS,depth,renL,ren,renO,sub,sub1,upto,mem,place,fresh,cond_true,Ab.get,nth,List.map,List.take,List.length_cons,List.length_nil,List.append_nil,List.nil_append,List.cons_append,Bool.and_true,uG,decide_true,decide_false,reduceIte,Nat.reduceEqDiff,Nat.reduceAdd,Nat.zero_add,Nat.beq,mkAgg,trees,if_true,F_]<;>exact rfl)|kernel_rfl)):leave C (Om C) f fn m [] none T h=some (.val v',h'):=by
 rw[leave,h1];dsimp only;rw[h2]
def LV(C:Cfg)(f:FuncId)(fn:Func)(m:Nat)(ds:List AV)(u:Pn)(T:Env)(h:Heap)(R:Out→Heap→Prop):Prop:=∃o h',leave C (Om C) f fn m ds u T h=some (o,h')∧R o h'
def zEm {C:Cfg} {f:FuncId} {fn:Func} {m:Nat} {T:Env} {h h':Heap} {v v':AV} {R:Out→Heap→Prop} (hr:R (.val v') h') (h1:results C.P fn ⟨T,h⟩=some v:=by(simp only[patch,put1,zBe,results,qC,zAZ,Ab.get,Nat.beq,load,loadCells,nth,cut,mkAgg,trees,Option.map_some,List.map_cons,List.map_nil,List.length_cons,List.length_nil,List.take,List.drop,Nat.zero_add,Nat.add_zero,Nat.reduceAdd,Nat.reduceLeDiff,if_true,F_, *];exact rfl))
  (h2:yW C f m v h=some (v',h'):=by(first|exact uW _ _ _ _|exact kN _ _ _ _ _|exact kP _ _ _ _ _ _|(simp only[patch,put1,yW,kR,uX,yO,view,elems,xF,patch,put1,catMap,canon,reach,wT,refs,vS,depth,renL,ren,renO,sub,sub1,upto,mem,place,fresh,cond_true,Ab.get,nth,List.map,List.take,List.length_cons,List.length_nil,List.append_nil,List.nil_append,List.cons_append,Bool.and_true,uG,decide_true,decide_false,reduceIte,Nat.reduceEqDiff,Nat.reduceAdd,Nat.zero_add,Nat.beq,mkAgg,trees,if_true,F_]<;>exact rfl)|kernel_rfl)):LV C f fn m [] none T h R :=
 ⟨_,_,zVh h1 h2,hr⟩
def zGe {C:Cfg} {f:FuncId} {fn:Func} {m:Nat} {g:FuncId} {cap ds:List AV} {u u':Pn} {T:Env} {h:Heap} {v:AV} {p:Patch} {R:Out→Heap→Prop} (hl:LV C f fn m ds u' T (patch h p) R) (hb:yY C.P g=true:=by kernel_rfl)
  (hc:vY (Om C) (nth h) [] h.length (xG+g) (pnAV u::([]++cap))=some (.val v,p):=by(simp only[pnAV,beq_true,beq_false,Bool.true_beq,Bool.false_beq,decide_true,decide_false,Int.ofNat_eq_natCast,List.length_map,List.getElem?_map,Option.map_some,wanted,exec1,zBQ,jB,xBox,jM,vH,xLen,kD,uC,wG,jH,cellsOf,zN,opds,kI,get,putT,ret,retO,lit,lit1,patch,put1,load,loadCells,cut,yC,mkAgg,trees,nth,lenOf,indexAddr,storeAt,upd,splice,vZ,uT,zBe,jF,kY,zAH,zAs,zAq,qT,qO,kW,convert,zAu,zAw,zAo,zAn,zBv,zAN,zAC,zAM,zAk,zAl,zAD,qQ,zAJ,zAA,zAy,zAE,zAF,zAt,zAm,zAI,jD,jO,Nat.beq,beq_self_eq_true,Nat.zero_add,Nat.add_zero,List.toList_toArray,List.map_cons,List.map_nil,List.length_cons,List.length_nil,List.take,List.drop,List.all_cons,List.all_nil,List.cons_append,List.nil_append,List.append_nil,Bool.and_true,Bool.true_and,Bool.not_true,Bool.not_false,Bool.and_self,if_true,if_false,reduceIte,Nat.reduceAdd,Nat.reduceLeDiff,Nat.reduceEqDiff,Sl.t,Val.c,Slot.c,Tpl.c,Fact.c,Bind.c,Node.c,Test.c,STest.c,Pat.c,intC,and_self,true_and,and_true,b00,b01,b02,b03,b04,b10,b11,b12,b13,b14,b20,b21,b22,b23,b24,b30,b31,b32,b33,b34,b40,b41,b42,b43,b44,jL,vY,reach,wT,refs,vS,catMap,depth,sub,sub1,renL,ren,renO,mem,place,fresh,xM,plain,zBm,back,zC3,zB4,vE,Way.id,Way.ver,vN,zCq,getN,view,yO,xF,zCy,zX,ne_eq,not_false_eq_true,cond_true,cond_false,zB6,Option.getD_some,elems,yN,wU,xA,wI,wI.go,zAf,qJ,setN,List.replicate,Nat.mul_one,Nat.reduceMul,Nat.reduceLT,append,added,lens,jQ,zCf,zDc,zFx,zEz,mfind,kQ,zAP,UInt8.reduceToNat,zBE,Ab.bound,Int.toNat_natCast,bne_self_eq_false,true_or,Nat.reduceLT,one1,zAO,deferred,kM,yK,zBw,kT,zBB,qV,qA,vT,zCe,zCu,zD4,zD6,uY,Bool.or_true,Bool.or_false,Bool.true_or,Bool.false_or, *];exact rfl)) (hv:avPn v=some u':=by exact rfl):LV C f fn m (.fn g [] cap::ds) u T h R:=by
 obtain⟨o,h',h1,h2⟩:=hl;exact⟨o,h',zXA h1 hb hc hv,h2⟩
def zFW{C:Cfg}{f:FuncId}{fn:Func}{m:Nat}{R:Out→Heap→Prop}{st:St}{x:Tree}{ds:List AV}(hl:LV C f fn m ds (some (x,false)) st.T st.h R)(hd:yK fn.ntmps st.T=some ds:=by(simp only[yK,Ab.get,Nat.beq];exact rfl)):zLS C f fn m R (.pan (.t x)) st:=by
 obtain⟨o,h',h1,h2⟩:=hl;exact⟨x,rfl,ds,hd,o,h',h1,h2⟩
def zFT{C:Cfg}{f:FuncId}{fn:Func}{m:Nat}{R:Out→Heap→Prop}{st:St}{ds:List AV}(hl:LV C f fn m ds none st.T st.h R)(hd:yK fn.ntmps st.T=some ds:=by(simp only[yK,Ab.get,Nat.beq];exact rfl)):zLS C f fn m R .ret st:=by
 obtain⟨o,h',h1,h2⟩:=hl;exact⟨ds,hd,o,h',h1,h2⟩
def zDt{C:Cfg}{f:FuncId}{fn:Func}{m:Nat}{R:Out→Heap→Prop}{st:St}{ds:List AV}(hl:LV C f fn m ds none st.T st.h R)(hd:yK fn.ntmps st.T=some ds:=by(simp only[yK,Ab.get,Nat.beq];exact rfl)):zLS C f fn m R .normal st:=by
 obtain⟨o,h',h1,h2⟩:=hl;exact⟨ds,hd,o,h',h1,h2⟩
def wJ(T:List Node):Tree:=.sl T.isEmpty T.isEmpty (T.map Node.c)
def resX(i:Nat):RX→List Node×Nat×Int
 |.ok _ i' _ T=>if 60<T.length then ([],i,7) else (T,i',0)
 |.pan e i' _ _=>([],i',e)
def zCQ(x:List Node×Nat×Int):Out×Heap:=(.val (.tup [.t (wJ x.1),.t (.int .i64 (x.2.1:Nat)),.t (.int .i64 x.2.2)]),[])
def zEr (nl cl:Bool) (L:List Tok) (hL:L.length<4000000000) (i:Nat) (hi:i≤L.length) :
  Om CC 148 [.t (.sl nl cl (L.map Tok.c)),.t (.int .i64 (i:Int))] []=some (zCQ (zH L i)):=by
 obtain⟨r,hr⟩:=zDI hi;have hk:=xO _ _ _ _ _ _ hr hi (by omega) trivial;have hc:Om CC 186 [.box 0 0,.t (.int .i64 0)] (rd (.sl nl cl (L.map Tok.c)) i 0 [])=some (r.o (.sl nl cl (L.map Tok.c))):=yDB (nl:=nl) (cl:=cl) hL _ 0 i 0 [] r (by omega) hr hi (by omega) (by simp;omega);have hp:zH L i=resX i r:=by(unfold zH;rw[hr];cases r<;>rfl)
 rw[hp];have d0:decide ((i:Int)<0)=false:=by simp
 have d1:decide ((i:Int) > ((L.map Tok.c).length:Int))=false:=by simp;omega
 clear hr hp;generalize L.map Tok.c=l at *
 suffices hh:∃o h',Om CC 148 [.t (.sl nl cl l),.t (.int .i64 (i:Int))] []=some (o,h')∧(o,h')=zCQ (resX i r) by
  obtain⟨o,h',h1,h2⟩:=hh;rw[h1,h2]
 refine zHl yAZ rfl ?_ (by kernel_rfl)
 (have F_:=c5 zF zG zE zC (c5 zB zO zK zR (c5 zV zU zM zI (c3 yM yL (c2 yHc qH)))))
 have z0:((0:Nat):Int)=0:=rfl;cases r with
 |pan e i1 d1 T1 =>
  rcases T1 with _|⟨t1,R1⟩
  ·simp only[RX.o,rd,rdT,rdR,z0,xD] at hc;have hC:=zMh (.t (.sl true true [])) .nov (.sl nl cl l) i1 d1 0 0 e [] 2 0 0 (.inl ⟨rfl,rfl,rfl⟩);simp only[List.append_nil,List.cons_append,List.nil_append,Nat.reduceAdd,xD] at hC;clear hk z0
   (simp only[zT,List.length_cons,List.length_nil,Nat.zero_add,Nat.reduceAdd];show W CC _ 38 (zA 148) _ _ _)
   (refine gA ?_)
   refine zFW ?_;refine zGe ?_;refine zEm ?_
   rfl
  simp only[RX.o,rd,rdT,rdR,z0,xD] at hc;generalize (t1::R1).map Node.c=E1 at *;have hC:=zMh (.hs 2 0) .nov (.sl nl cl l) i1 d1 0 0 e [.arr 8 0 false E1] 3 0 0 (.inr ⟨E1,rfl,rfl,rfl⟩);simp only[List.append_nil,List.cons_append,List.nil_append,Nat.reduceAdd,xD] at hC;clear hk z0
  (simp only[zT,List.length_cons,List.length_nil,Nat.zero_add,Nat.reduceAdd];show W CC _ 38 (zA 148) _ _ _)
  (refine gA ?_)
  refine zFW ?_;refine zGe ?_;refine zEm ?_
  rfl
 |ok a i1 d1 T1 =>
  obtain⟨k1,k2,k3,k4,k5⟩:=hk;rcases T1 with _|⟨t1,R1⟩
  ·exact absurd k5 (by simp)
  simp only[RX.o,rd,rdT,rdR,z0,xD] at hc;clear z0;have e1:resX i (.ok a i1 d1 (t1::R1))=if 60<(t1::R1).length then ([],i,7) else (t1::R1,i1,0):=rfl
  rw[e1];clear e1 k1 k2 k3 k4 k5;have hE:wJ (t1::R1)=.sl false false ((t1::R1).map Node.c):=rfl;have hl:(t1::R1).length=((t1::R1).map Node.c).length:=by rw[List.length_map]
  by_cases hM:60<(t1::R1).length
  ·rw[if_pos hM];rw[hl] at hM;clear hE hl;generalize (t1::R1).map Node.c=E1 at *;have hQ:decide ((E1.length:Int) > 60)=true:=by(rw[decide_eq_true_eq];omega)
   have hC:=zJK (0,3,4,5) [.box [.box 1 0],.box [.t (.sl nl cl l),.t (.int .i64 (i1:Int)),.t (.int .i64 (d1:Int)),.hs 2 0],.arr 8 0 false E1,.box [.t (.sl true true [])],.box [.t (.int .i64 (i:Int))],.box [.t (.int .i64 7)]] (by kernel_rfl);dsimp only at hC
   (simp only[zT,List.length_cons,List.length_nil,Nat.zero_add,Nat.reduceAdd];show W CC _ 38 (zA 148) _ _ _)
   (refine gA ?_)
   first|refine zFT ?_|refine zDt ?_
   refine zGe ?_;refine zEm ?_
   rfl
  rw[if_neg hM];rw[hl] at hM;have hY:zCQ (t1::R1,i1,0)=(.val (.tup [.t (.sl false false ((t1::R1).map Node.c)),.t (.int .i64 (i1:Int)),.t (.int .i64 0)]),[]):=rfl;rw[hY];clear hE hl hY;generalize (t1::R1).map Node.c=E1 at *;have hQ:decide ((E1.length:Int) > 60)=false:=by(rw[decide_eq_false_iff_not];omega)
  have hC:=zJK (0,3,4,5) [.box [.box 1 0],.box [.t (.sl nl cl l),.t (.int .i64 (i1:Int)),.t (.int .i64 (d1:Int)),.hs 2 0],.arr 8 0 false E1,.box [.hs 2 0],.box [.t (.int .i64 (i1:Int))],.box [.t (.int .i64 0)]] (by kernel_rfl);dsimp only at hC
  (simp only[zT,List.length_cons,List.length_nil,Nat.zero_add,Nat.reduceAdd];show W CC _ 38 (zA 148) _ _ _)
  (refine gA ?_)
  first|refine zFT ?_|refine zDt ?_
  refine zGe ?_;refine zEm ?_
  rfl
def strC(w:List Nat):List Tree:=[.str w]
def idxI(s:List Nat):List (List Nat)→Nat→Int
 |[],_=>-1
 |w::r,k=>if s=w then (k:Int) else idxI s r (k+1)
def hasW(s:List Nat)(ws:List (List Nat)):Bool:=ws.any fun w=>decide (s=w)
def zPx(s:List Nat):∀(ws:List (List Nat)) (k:Nat),decide (idxI s ws k ≥ 0)=hasW s ws
 |[],k=>rfl
 |w::r,k=>by
  unfold idxI hasW;rw[List.any_cons]
  by_cases h:s=w
  ·rw[if_pos h];simp [h]
  rw[if_neg h,zPx s r (k+1)];simp [h,hasW]
def zTF (x y:Bool) (ws:List (List Nat)) (s:List Nat) (hl:ws.length<9223372036854775807) :
  Om CC 53 [.t (.sl x y (ws.map strC)),.t (.str s)] []=some (.val (.t (.int .i64 (idxI s ws 0))),[]):=by
 have hR:ws.length=(ws.map strC).length:=by rw[List.length_map]
 have hE:∀j,(ws.map strC)[j]?=ws[j]?.map strC:=fun j=>List.getElem?_map
 generalize ws.map strC=E at *;generalize hr:idxI s ws 0=r;refine zL yGJ rfl ?_
 (have F_:=c3 zG zC (c2 xC yH9);show W CC 0 19 (zA 53) _ ⟨[(0,_),(1,_)],[]⟩ _)
 (refine gA ?_)
 refine yE (α:=Nat) (fun j=>⟨[(0,.t (.sl x y E)),(1,.t (.str s)),(7,.t (.int .i64 (E.length:Int))),(8,.t (.int .i64 (j:Int)))],[]⟩) (fun j=>ws.length - j)
  (fun j=>j≤ws.length∧r=idxI s (ws.drop j) j) 0 (by exact aTd) ⟨Nat.zero_le _,hr.symm⟩ ?_
 rintro j ⟨hj,hI⟩
 by_cases hO:j<ws.length
 ·have hd:decide ((j:Int)<(E.length:Int))=true:=by rw[← hR];simpa using hO
  have kk:E[j]?=some [.str ws[j]]:=by rw[hE,List.getElem?_eq_getElem hO];rfl
  have hX:idxI s (ws.drop j) j=if s=ws[j] then (j:Int) else idxI s (ws.drop (j+1)) (j+1):=by rw[List.drop_eq_getElem_cons hO,idxI]
  have hw:=wI64 j (by omega);generalize ws[j]=w at *;clear hE hr;rw[hR] at hO
  by_cases hb:s=w
  ·have h9:beqL s w=true:=by rw[wV];exact decide_eq_true hb
   rw[if_pos hb] at hX;clear hb;rw[hX] at hI;subst hI
   (refine gA ?_)
   all_goals refine aK ?_ ?_<;>(first|rfl)
  have h9:beqL s w=false:=by rw[wV];exact decide_eq_false hb
  rw[if_neg hb] at hX;clear hb;have ka:=hI.trans hX;clear hX hI
  (refine gA ?_)
  exact zD (j+1) (by omega) ⟨by omega,ka⟩ (by exact aTd)
 obtain rfl:j=ws.length:=by omega
 have hd:decide ((ws.length:Int)<(E.length:Int))=false:=by rw[← hR];simp
 have km:decide ((E.length:Int)<(E.length:Int))=false:=by simp
 rw[List.drop_length,idxI] at hI;subst hI;clear hE hr
 (refine gA ?_)
 all_goals refine aK ?_ ?_<;>(first|rfl)
def zFp (x y:Bool) (ws:List (List Nat)) (s:List Nat) (hl:ws.length<9223372036854775807) :
  Om CC 31 [.t (.sl x y (ws.map strC)),.t (.str s)] []=some (.val (.t (.bool (hasW s ws))),[]):=by
 have h1:=zTF x y ws s hl;have h2:=zPx s ws 0;generalize ws.map strC=E at *;generalize idxI s ws 0=r at *;generalize hasW s ws=b at *;refine zL yC5 rfl ?_
 (have F_:=c5 zG zC xC yHC yIO;show W CC 0 9 (zA 31) _ ⟨[(0,_),(1,_)],[]⟩ _)
 (refine gA ?_)
 all_goals refine aK ?_ ?_<;>(first|rfl|(clear F_;simp_all;done))
def ruT:List Test→AV
 |[]=>.t (.sl true true [])
 |_::_=>.hs 1 0
def ruR:List Test→Heap
 |[]=>[]
 |t::r=>[.arr 8 0 false ((t::r).map Test.c)]
def ru(l:Tree)(i n:Nat)(T:List Test):Heap:=.box [.t l,.t (.int .i64 (i:Int)),.t (.int .i64 (n:Int)),ruT T]::ruR T
def uisX(L:List Tok)(j:Nat)(ws:List (List Nat)):Bool :=
 match L[j]? with
 |some t=>(t.k==1||t.k==7)&&hasW t.s ws
 |none=>false
def zW9(L:List Tok)(j:Nat)(w:List Nat):uisX L j [w]=isW L j w:=by
 unfold uisX isW;cases L[j]? with
 |none=>rfl
 |some t=>simp only[hasW,List.any_cons,List.any_nil,Bool.or_false,zBV]
def zWO(L:List Tok)(j:Nat)(v w:List Nat):uisX L j [v,w]=(isW L j v||isW L j w):=by
 unfold uisX isW;cases L[j]? with
 |none=>rfl
 |some t=>simp only[hasW,List.any_cons,List.any_nil,Bool.or_false,zBV,Bool.and_or_distrib_left]
def xaK:=c5 zF zG zP zE (c5 zC zB zO zK (c5 yV xC zV zU (c5 zM yR vB zI (c3 xY zX2 zLo))))
def zVZ(nl cl x y:Bool)(L:List Tok)(i n on:Nat)(T:List Test)(ws:List (List Nat))(hl:ws.length<9223372036854775807)(hi:i+on<9223372036854775807) :
  Om CC 79 [.box 0 0,.t (.int .i64 (on:Int)),.t (.sl x y (ws.map strC))] (ru (.sl nl cl (L.map Tok.c)) i n T)=some (.val (.t (.bool (uisX L (i+on) ws))),ru (.sl nl cl (L.map Tok.c)) i n T):=by
 have hw:IntKind.i64.wrap ((i:Int)+(on:Int))=((i+on:Nat):Int):=by rw[wrap64]<;>omega
 generalize hj:i+on=j at *
 by_cases hi:j<L.length
 ·obtain⟨t,ht⟩:∃t,L[j]?=some t:=⟨_,List.getElem?_eq_getElem hi⟩;have hT:=vF ht;have hd:decide ((j:Int)<((L.map Tok.c).length:Int))=true:=by simpa using hi
  have hW:uisX L j ws=((t.k==1||t.k==7)&&hasW t.s ws):=by unfold uisX;rw[ht]
  have hs:=zFp x y ws t.s hl;rw[hW];clear hj ht;generalize L.map Tok.c=l at *;generalize ws.map strC=E at *;generalize hasW t.s ws=b0 at *;generalize kb:(t.k==1)=b1 at *;generalize ko:(t.k==7)=b2 at *;obtain⟨tk,ts,⟨vk,vn,vs⟩,tl,tc⟩:=t;dsimp only at *
  (have F_:=xaK)
  rcases T with _|⟨t0,T0⟩
  all_goals simp only[ru,ruT,ruR]<;>(try generalize (t0::T0).map Test.c=E0 at *)<;>refine zL zUh rfl ?_<;>(simp only[zT,List.length_cons,List.length_nil,Nat.zero_add,Nat.reduceAdd];show W CC _ 55 (zA 79) _ _ _)<;>(repeat' first|refine gA ?_|refine gT ?_ ?_<;>intro hv|fail)<;>refine aK ?_ ?_<;>(first|rfl|(clear F_;simp_all;done))
 have hd:decide ((j:Int)<((L.map Tok.c).length:Int))=false:=by simp;omega
 have hW:uisX L j ws=false:=by unfold uisX;rw[List.getElem?_eq_none (by omega)]
 rw[hW];clear hj;generalize L.map Tok.c=l at *;generalize ws.map strC=E at *
 (have F_:=xaK)
 rcases T with _|⟨t0,T0⟩
 all_goals simp only[ru,ruT,ruR]<;>(try generalize (t0::T0).map Test.c=E0 at *)<;>refine zL zUh rfl ?_<;>(simp only[zT,List.length_cons,List.length_nil,Nat.zero_add,Nat.reduceAdd];show W CC _ 55 (zA 79) _ _ _)<;>(refine gA ?_)<;>refine aK ?_ ?_<;>(first|rfl|(clear F_;simp_all;done))
def uis1 (nl cl:Bool) (L:List Tok) (i n:Nat) (T:List Test) (on:Nat) (w:List Nat) (hi:i+on<9223372036854775807) :
  Om CC 79 [.box 0 0,.t (.int .i64 (on:Int)),.t (.sl false false [[.str w]])] (ru (.sl nl cl (L.map Tok.c)) i n T)=some (.val (.t (.bool (isW L (i+on) w))),ru (.sl nl cl (L.map Tok.c)) i n T):=by
 rw[← zW9];exact zVZ nl cl false false L i n on T [w] (by simp) hi
def uis2 (nl cl:Bool) (L:List Tok) (i n:Nat) (T:List Test) (v w:List Nat) (hi:i<9223372036854775807) :
  Om CC 79 [.box 0 0,.t (.int .i64 0),.t (.sl false false [[.str v],[.str w]])] (ru (.sl nl cl (L.map Tok.c)) i n T)=some (.val (.t (.bool (isW L i v||isW L i w))),ru (.sl nl cl (L.map Tok.c)) i n T):=by
 rw[← zWO];exact zVZ nl cl false false L i n 0 T [v,w] (by simp) hi
def uis0 (nl cl:Bool) (L:List Tok) (i n:Nat) (T:List Test) (w:List Nat) (hi:i<9223372036854775807) :
  Om CC 79 [.box 0 0,.t (.int .i64 0),.t (.sl false false [[.str w]])] (ru (.sl nl cl (L.map Tok.c)) i n T)=some (.val (.t (.bool (isW L i w))),ru (.sl nl cl (L.map Tok.c)) i n T):=uis1 nl cl L i n T 0 w hi
def xaL:=c5 zF zG zP zE (c5 zC zB zO zK (c5 yV xC zV zU (c5 zM yR vB zI (c3 xY zYa kJ))))
def zPi (nl cl:Bool) (L:List Tok) (i n:Nat) (T:List Test) (hi:i<9223372036854775800) :
  Om CC 80 [.box 0 0,.t (.int .i64 1)] (ru (.sl nl cl (L.map Tok.c)) i n T)=some (.val (.t (.bool (qE L (i+1)))),ru (.sl nl cl (L.map Tok.c)) i n T):=by
 have h1:=uis1 nl cl L i n T 2 [58] (by omega);have hw:=wI64 i (by omega);have hD:IntKind.i64.wrap (1+1)=2:=rfl;have hZ:((2:Nat):Int)=2:=rfl;rw[hZ] at h1;clear hZ
 by_cases hS:i+1<L.length
 ·obtain⟨t,ht⟩:∃t,L[i+1]?=some t:=⟨_,List.getElem?_eq_getElem hS⟩;have hT:=vF ht;have hd:decide (((i+1:Nat):Int)<((L.map Tok.c).length:Int))=true:=by(rw[decide_eq_true_eq,List.length_map];omega)
  have hX:qE L (i+1)=(t.k==1&&isW L (i+2) [58]):=by unfold qE;rw[ht]
  rw[hX];clear hX ht hS;generalize L.map Tok.c=l at *;generalize isW L (i+2) [58]=b0 at *;generalize kb:(t.k==1)=b1 at *;obtain⟨tk,ts,⟨vk,vn,vs⟩,tl,tc⟩:=t;dsimp only at *
  (have F_:=xaL)
  rcases T with _|⟨t0,T0⟩
  all_goals simp only[ru,ruT,ruR] at h1 ⊢<;>(try generalize (t0::T0).map Test.c=E0 at *)<;>refine zL zVy rfl ?_<;>(simp only[zT,List.length_cons,List.length_nil,Nat.zero_add,Nat.reduceAdd];show W CC _ 37 (zA 80) _ _ _)<;>(repeat' first|refine gA ?_|refine gT ?_ ?_<;>intro hv|fail)<;>refine aK ?_ ?_<;>(first|rfl|(clear F_;simp_all;done))
 have hd:decide (((i+1:Nat):Int)<((L.map Tok.c).length:Int))=false:=by(rw[decide_eq_false_iff_not,List.length_map];omega)
 have hX:qE L (i+1)=false:=by unfold qE;rw[List.getElem?_eq_none (by omega)]
 rw[hX];clear h1 hX hS;generalize L.map Tok.c=l at *
 (have F_:=xaL)
 rcases T with _|⟨t0,T0⟩
 all_goals simp only[ru,ruT,ruR]<;>(try generalize (t0::T0).map Test.c=E0 at *)<;>refine zL zVy rfl ?_<;>(simp only[zT,List.length_cons,List.length_nil,Nat.zero_add,Nat.reduceAdd];show W CC _ 37 (zA 80) _ _ _)<;>(refine gA ?_)<;>refine aK ?_ ?_<;>(first|rfl|(clear F_;simp_all;done))
def zQD(P:Program)(t:TypeId):Bool:=match und P t with
 |some (.struct _)=>true
 |_=>false
def zRG{P:Program}{t:TypeId}(h:zQD P t=true):∃fs,und P t=some (.struct fs):=by
 unfold zQD at h;split at h
 ·rename_i fs h';exact⟨fs,h'⟩
 cases h
def zLu:∃fs,und Tryz.prog 133=some (.struct fs):=zRG (by kernel_rfl)
def ustop(i:Nat)(e:Int):Tree:=.ifc 133 (.agg [.int .i64 (i:Int),.int .i64 e])
def zKq(l:Tree)(i n:Nat)(T:List Test)(e:Int):Om CC 110 [.box 0 0,.t (.int .i64 e)] (ru l i n T)=some (.pan (.t (ustop i e)),ru l i n T):=by
 unfold ustop;obtain⟨fs,kc⟩:=zLu
 (have F_:=c5 zF zG zP zE (c5 zC zB zO zK (c5 zR yV zV zU (c5 zM yR vB zI (c3 xY zPr yEO)))))
 rcases T with _|⟨t0,T0⟩
 all_goals simp only[ru,ruT,ruR] at ⊢<;>(try generalize (t0::T0).map Test.c=E0 at *)<;>refine zCB yAi rfl ?_<;>(simp only[zT,List.length_cons,List.length_nil,Nat.zero_add,Nat.reduceAdd];show W CC _ 11 (zA 110) _ _ _)<;>(refine gA ?_)<;>((refine aLp2 ?_ ?_))<;>(first|rfl|(clear F_;simp_all;done))
def zPM (nl cl:Bool) (L:List Tok) (i n:Nat) (T:List Test) (E9:List (List Tree)) (h:Om CC 79 [.box 0 0,.t (.int .i64 0),.t (.sl false false E9)] (ru (.sl nl cl (L.map Tok.c)) i n T)=some (.val (.t (.bool false)),ru (.sl nl cl (L.map Tok.c)) i n T)) :
  Om CC 111 [.box 0 0,.t (.sl false false E9)] (ru (.sl nl cl (L.map Tok.c)) i n T)=some (.pan (.t (ustop i 4)),ru (.sl nl cl (L.map Tok.c)) i n T):=by
 have h1:=zKq (.sl nl cl (L.map Tok.c)) i n T 4;unfold ustop at *;generalize Tree.sl nl cl (L.map Tok.c)=l at *
 (have F_:=c5 zF zG zP zE (c5 zC zB zO zK (c5 zR yV xC zV (c5 zU zM yR vB (c5 zI xY zVr kJ zAL)))))
 rcases T with _|⟨t0,T0⟩
 all_goals simp only[ru,ruT,ruR] at h h1 ⊢<;>(try generalize (t0::T0).map Test.c=E0 at *)<;>refine zCB zRg rfl ?_<;>(simp only[zT,List.length_cons,List.length_nil,Nat.zero_add,Nat.reduceAdd];show W CC _ 30 (zA 111) _ _ _)<;>(refine gA ?_)<;>((refine aLp2 ?_ ?_))<;>(first|rfl|(clear F_;simp_all;done))
def zHh (nl cl:Bool) (L:List Tok) (i n:Nat) (T:List Test) (E9:List (List Tree)) (t:Tok) (ht:L[i]?=some t) (hi:i<9223372036854775800) (h:Om CC 79 [.box 0 0,.t (.int .i64 0),.t (.sl false false E9)] (ru (.sl nl cl (L.map Tok.c)) i n T)=some (.val (.t (.bool true)),ru (.sl nl cl (L.map Tok.c)) i n T)) :
  Om CC 111 [.box 0 0,.t (.sl false false E9)] (ru (.sl nl cl (L.map Tok.c)) i n T)=some (.val (.t (.str t.s)),ru (.sl nl cl (L.map Tok.c)) (i+1) n T):=by
 have hw:=wI64 i (by omega);have hD:IntKind.i64.wrap (((i+1:Nat):Int) - 1)=(i:Int):=by rw[wrap64]<;>omega
 have hT:=vF ht;clear ht;generalize L.map Tok.c=l at *;obtain⟨tk,ts,⟨vk,vn,vs⟩,tl,tc⟩:=t;dsimp only at *
 (have F_:=c5 zF zG zP zE (c5 zC zB zO zK (c5 zR yV xC zV (c5 zU zM yR vB (c3 zI xY (c2 zVr kJ))))))
 rcases T with _|⟨t0,T0⟩
 all_goals simp only[ru,ruT,ruR] at h ⊢<;>(try generalize (t0::T0).map Test.c=E0 at *)<;>refine zL zRg rfl ?_<;>(simp only[zT,List.length_cons,List.length_nil,Nat.zero_add,Nat.reduceAdd];show W CC _ 30 (zA 111) _ _ _)<;>(refine gA ?_)<;>refine aK ?_ ?_<;>(first|rfl|(clear F_;simp_all;done))
def xaM:=c5 zF zG zP zE (c5 zC zB zO zK (c5 yV zV zU zM (c5 yR vB zI xY zX0)))
def kO (nl cl:Bool) (L:List Tok) (i n:Nat) (T:List Test) :
  Om CC 77 [.box 0 0] (ru (.sl nl cl (L.map Tok.c)) i n T)=some (.val (.t (.agg [.int .i64 (plW L i).1,.int .i64 (plW L i).2])),ru (.sl nl cl (L.map Tok.c)) i n T):=by
 by_cases hi:i<L.length
 ·obtain⟨t,ht⟩:∃t,L[i]?=some t:=⟨_,List.getElem?_eq_getElem hi⟩;have hT:=vF ht;have hd:decide ((i:Int)<((L.map Tok.c).length:Int))=true:=by simpa using hi
  have hP:plW L i=(t.line,t.col):=by unfold plW;rw[ht]
  rw[hP];clear hP ht;generalize L.map Tok.c=l at *;obtain⟨tk,ts,⟨vk,vn,vs⟩,tl,tc⟩:=t;dsimp only at *
  (have F_:=xaM)
  rcases T with _|⟨t0,T0⟩
  all_goals simp only[ru,ruT,ruR]<;>(try generalize (t0::T0).map Test.c=E0 at *)<;>refine zL zSM rfl ?_<;>(simp only[zT,List.length_cons,List.length_nil,Nat.zero_add,Nat.reduceAdd];show W CC _ 25 (zA 77) _ _ _)<;>(refine gA ?_)<;>refine aK ?_ ?_<;>(first|rfl|(clear F_;simp_all;done))
 have hd:decide ((i:Int)<((L.map Tok.c).length:Int))=false:=by simp;omega
 have hP:plW L i=(0,0):=by unfold plW;rw[List.getElem?_eq_none (by omega)]
 rw[hP];clear hP;generalize L.map Tok.c=l at *
 (have F_:=xaM)
 rcases T with _|⟨t0,T0⟩
 all_goals simp only[ru,ruT,ruR]<;>(try generalize (t0::T0).map Test.c=E0 at *)<;>refine zL zSM rfl ?_<;>(simp only[zT,List.length_cons,List.length_nil,Nat.zero_add,Nat.reduceAdd];show W CC _ 25 (zA 77) _ _ _)<;>(refine gA ?_)<;>refine aK ?_ ?_<;>(first|rfl|(clear F_;simp_all;done))
def zBp (l:Tree) (i n:Nat) (T:List Test) (x:Test) (hT:T.length<4294967295) :
  Om CC 81 [.box 0 0,.t (.agg x.c)] (ru l i n T)=some (.val (.t (.int .i64 (T.length:Nat))),ru l i n (T++[x])):=by
 obtain⟨op,⟨anl,acl,al⟩,⟨bnl,bcl,bl⟩,low,high,⟨knl,kcl,kl⟩,line,col⟩:=x;have hx:Test.c ⟨op,⟨anl,acl,al⟩,⟨bnl,bcl,bl⟩,low,high,⟨knl,kcl,kl⟩,line,col⟩=[.int .u8 op,.sl anl acl (al.map Node.c),.sl bnl bcl (bl.map Node.c),.bool low,.bool high,.sl knl kcl (kl.map intC),.int .i64 line,.int .i64 col]:=rfl;have hl:T.length=(T.map Test.c).length:=by rw[List.length_map]
 have hU:lens 8 (T.map Test.c)=true:=by unfold lens;rw[List.all_map];exact List.all_eq_true.2 fun x _=>rfl
 rw[hl] at hT ⊢;have kd:decide ((T.map Test.c).length+1<4294967296)=true:=by(rw[decide_eq_true_eq];omega)
 have hw:IntKind.i64.wrap ((((T.map Test.c).length+1:Nat):Int) - 1)=((T.map Test.c).length:Int):=by rw[wrap64]<;>omega
 have ke:IntKind.i64.wrap (((1:Nat):Int) - 1)=0:=rfl;rw[hx];clear hl;generalize hN:(⟨op,⟨anl,acl,al⟩,⟨bnl,bcl,bl⟩,low,high,⟨knl,kcl,kl⟩,line,col⟩:Test)=N at *;clear hN
 (have F_:=c5 zF zG zP zE (c5 zC zB zO zK (c5 yV zV zU zM (c5 yR vB zI xY yHX))))
 rcases T with _|⟨t0,T0⟩
 ·simp only[ru,ruT,ruR,List.nil_append];have e1:[N].map Test.c=[N.c]:=rfl;rw[e1,hx];generalize al.map Node.c=A at *;generalize bl.map Node.c=B at *;generalize kl.map intC=K at *;clear hx hw kd hU hT e1;refine zL zVn rfl ?_
  (simp only[zT,List.length_cons,List.length_nil,Nat.zero_add,Nat.reduceAdd];show W CC _ 21 (zA 81) _ _ _)
  (refine gA ?_)
  all_goals refine aK ?_ ?_<;>(first|rfl|(clear F_;simp_all;done))
 simp only[ru,ruT,ruR,List.cons_append];have e1:(t0::(T0++[N])).map Test.c=(t0::T0).map Test.c++[N.c]:=by
  rw[← List.cons_append,List.map_append];rfl
 rw[e1,hx];generalize (t0::T0).map Test.c=E at *;generalize al.map Node.c=A at *;generalize bl.map Node.c=B at *;generalize kl.map intC=K at *;clear hx ke e1;refine zL zVn rfl ?_
 (simp only[zT,List.length_cons,List.length_nil,Nat.zero_add,Nat.reduceAdd];show W CC _ 21 (zA 81) _ _ _)
 (refine gA ?_)
 all_goals refine aK ?_ ?_<;>(first|rfl|(clear F_;simp_all;done))
def zEQ (nl cl:Bool) (L:List Tok) (hL:L.length<4000000000) (i n:Nat) (T:List Test) (hi:i≤L.length) :
  Om CC 109 [.box 0 0] (ru (.sl nl cl (L.map Tok.c)) i n T)=some (.val (.t (.bool ((zH L i).2.2==0))),ru (.sl nl cl (L.map Tok.c)) i n T):=by
 have h1:=zEr nl cl L hL i hi;simp only[zCQ,wJ] at h1;generalize zH L i=r at *;obtain⟨N,j,e⟩:=r;dsimp only at *;generalize N.map Node.c=A at *;generalize Tree.sl nl cl (L.map Tok.c)=l at *
 (have F_:=c5 zF zG zP zE (c5 zC zB zO zK (c5 zR yV zV zU (c5 zM yR vB zI (c3 xY yE1 zB8)))))
 rcases T with _|⟨t0,T0⟩
 all_goals simp only[ru,ruT,ruR] at ⊢<;>(try generalize (t0::T0).map Test.c=E0 at *)<;>refine zL zYT rfl ?_<;>(simp only[zT,List.length_cons,List.length_nil,Nat.zero_add,Nat.reduceAdd];show W CC _ 21 (zA 109) _ _ _)<;>(refine gA ?_)<;>refine aK ?_ ?_<;>(first|rfl|(clear F_;simp_all;done))
def zFD (nl cl:Bool) (L:List Tok) (hL:L.length<4000000000) (i n:Nat) (T:List Test) (hi:i≤L.length) (he:(zH L i).2.2=0) :
  Om CC 113 [.box 0 0] (ru (.sl nl cl (L.map Tok.c)) i n T)=some (.val (.t (wJ (zH L i).1)),ru (.sl nl cl (L.map Tok.c)) (zH L i).2.1 n T):=by
 have h1:=zEr nl cl L hL i hi;simp only[zCQ,wJ] at h1 ⊢;generalize zH L i=r at *;obtain⟨N,j,e⟩:=r;dsimp only at *;subst he;generalize N.map Node.c=A at *;generalize Tree.sl nl cl (L.map Tok.c)=l at *
 (have F_:=c5 zF zG zP zE (c5 zC zB zO zK (c5 zR yV zV zU (c5 zM yR vB zI (c3 xY zVG zB8)))))
 rcases T with _|⟨t0,T0⟩
 all_goals simp only[ru,ruT,ruR] at ⊢<;>(try generalize (t0::T0).map Test.c=E0 at *)<;>refine zL zQV rfl ?_<;>(simp only[zT,List.length_cons,List.length_nil,Nat.zero_add,Nat.reduceAdd];show W CC _ 29 (zA 113) _ _ _)<;>(refine gA ?_)<;>refine aK ?_ ?_<;>(first|rfl|(clear F_;simp_all;done))
def zHb (nl cl:Bool) (L:List Tok) (hL:L.length<4000000000) (i n:Nat) (T:List Test) (hi:i≤L.length) (he:(zH L i).2.2≠0) :
  Om CC 113 [.box 0 0] (ru (.sl nl cl (L.map Tok.c)) i n T)=some (.pan (.t (ustop (zH L i).2.1 (zH L i).2.2)),ru (.sl nl cl (L.map Tok.c)) (zH L i).2.1 n T):=by
 have h1:=zEr nl cl L hL i hi;have h2:=zKq (.sl nl cl (L.map Tok.c)) (zH L i).2.1 n T (zH L i).2.2;simp only[zCQ,wJ,ustop] at h1 h2 ⊢;generalize zH L i=r at *;obtain⟨N,j,e⟩:=r;dsimp only at *;have kp:(e != 0)=true:=by simpa using he
 clear he;generalize N.map Node.c=A at *;generalize Tree.sl nl cl (L.map Tok.c)=l at *
 (have F_:=c5 zF zG zP zE (c5 zC zB zO zK (c5 zR yV zV zU (c5 zM yR vB zI (c3 xY zVG (c2 zB8 zAL))))))
 rcases T with _|⟨t0,T0⟩
 all_goals simp only[ru,ruT,ruR] at h2 ⊢<;>(try generalize (t0::T0).map Test.c=E0 at *)<;>refine zCB zQV rfl ?_<;>(simp only[zT,List.length_cons,List.length_nil,Nat.zero_add,Nat.reduceAdd];show W CC _ 29 (zA 113) _ _ _)<;>(refine gA ?_)<;>((refine aLp2 ?_ ?_))<;>(first|rfl|(clear F_;simp_all;done))
def xaN:=c5 zF zG zP zE (c5 zC zB zO zK (c5 zR yV xC zV (c5 zU zM yR vB (c5 zI xY zTz kJ zB8))))
def zE2 (nl cl:Bool) (L:List Tok) (hL:L.length<4000000000) (i n:Nat) (T:List Test) (hi:i≤L.length) :
  Om CC 112 [.box 0 0] (ru (.sl nl cl (L.map Tok.c)) i n T)=some (.val (.t (.bool (xQ L i))),ru (.sl nl cl (L.map Tok.c)) i n T):=by
 have h1:=uis2 nl cl L i n T [91] [40] (by omega);have hX:xQ L i=((isW L i [91]||isW L i [40])&&((zH L (i+1)).2.2==0&&isW L (zH L (i+1)).2.1 [46,46])):=rfl;rw[hX];have hw:=wI64 i (by omega);cases hb:(isW L i [91]||isW L i [40]) with
 |false =>
  rw[hb] at h1;rw[Bool.false_and];clear hX hb;generalize Tree.sl nl cl (L.map Tok.c)=l at *
  (have F_:=xaN)
  rcases T with _|⟨t0,T0⟩
  all_goals simp only[ru,ruT,ruR] at h1 ⊢<;>(try generalize (t0::T0).map Test.c=E0 at *)<;>refine zL zRo rfl ?_<;>(simp only[zT,List.length_cons,List.length_nil,Nat.zero_add,Nat.reduceAdd];show W CC _ 37 (zA 112) _ _ _)<;>(refine gA ?_)<;>refine aK ?_ ?_<;>(first|rfl)
 |true =>
  rw[hb] at h1;rw[Bool.true_and];have hJ:i<L.length:=by
   rw[Bool.or_eq_true] at hb;rcases hb with h|h<;>exact zY h
  have h2:=zEr nl cl L hL (i+1) hJ;have kr:=zCM (l:=L) (i:=i+1) hJ;have h3:=uis0 nl cl L (zH L (i+1)).2.1 0 [] [46,46] (by omega);simp only[zCQ,wJ] at h2;clear hX hb;generalize isW L (zH L (i+1)).2.1 [46,46]=b0 at *;generalize zH L (i+1)=r at *;obtain⟨N,j,e⟩:=r;dsimp only at *;generalize N.map Node.c=A at *;simp only[ru,ruT,ruR] at h3;have z0:((0:Nat):Int)=0:=rfl;rw[z0] at h3;clear z0;generalize L.map Tok.c=l at *
  (have F_:=xaN)
  rcases T with _|⟨t0,T0⟩
  all_goals simp only[ru,ruT,ruR] at h1 ⊢<;>(try generalize (t0::T0).map Test.c=E0 at *)<;>refine zL zRo rfl ?_<;>(simp only[zT,List.length_cons,List.length_nil,Nat.zero_add,Nat.reduceAdd];show W CC _ 37 (zA 112) _ _ _)<;>(repeat' first|refine gA ?_|refine gT ?_ ?_<;>intro hv|fail)<;>refine aK ?_ ?_<;>(first|rfl|(clear F_;simp_all;done))
def RUo(l:Tree)(T:List Test)(r:RU)(o:Out)(h':Heap):Prop :=
 match r with
 |.ok k i n T'=>o=.val (.t (.int .i64 (k:Nat)))∧h'=ru l i n T'
 |.pan e i=>o=.pan (.t (ustop i e))∧∃n' T',h'=ru l i n' T'∧(T≠[]→T'≠[])
 |.oks _ _ _ _=>False
def zCJ (op:Int) (low high:Bool) (kids:List Nat) (p:Int×Int) (a b:List Node) :
  (xK op a b low high kids p).c=[.int .u8 op,wJ a,wJ b,.bool low,.bool high,.sl kids.isEmpty kids.isEmpty ((xE kids).map intC),.int .i64 p.1,.int .i64 p.2]:=by
 unfold xK Test.c wJ;cases a<;>cases b<;>cases kids<;>rfl
def xaO:=c5 zF zG zP zE (c5 zC zB zO zK (c5 zR yV xC zV (c5 zU zM yR vB (c5 zAQ zAG zI xY (c5 zDo kJ zBA zBF (c5 zBj zBT zBX zBL (c2 zAL zCr)))))))
def zWu {nl cl:Bool} {L:List Tok} (hL:L.length<4000000000) {i n:Nat} {T:List Test} (hi:i≤L.length) (hT:T.length<4294967295) (h:anyX L i=true) :
  ∃o h',Om CC 78 [.box 0 0] (ru (.sl nl cl (L.map Tok.c)) i n T)=some (o,h')∧RUo (.sl nl cl (L.map Tok.c)) T (.ok T.length (i+1) n (T++[xK 1 [] [] false false [] (plW L i)])) o h':=by
 unfold anyX at h;rw[Bool.and_eq_true] at h;have h1:=uis0 nl cl L i n T [45] (by omega);have h2:=zEQ nl cl L hL i n T hi;have h3:=kO nl cl L i n T;have hb:((zH L i).2.2==0)=false:=by(have:=h.2;simp at this ⊢;exact this)
 rw[h.1] at h1;rw[hb] at h2;have hw:=wI64 i (by omega);have h4:=zBp (.sl nl cl (L.map Tok.c)) (i+1) n T (xK 1 [] [] false false [] (plW L i)) hT;rw[zCJ] at h4;clear h hb;simp only[wJ,List.isEmpty_nil,xE,List.map_nil] at h4;generalize xK 1 [] [] false false [] (plW L i)=N at *;generalize (plW L i).1=p1 at *;generalize (plW L i).2=p2 at *;generalize hH:T.length=lenT at *;generalize Tree.sl nl cl (L.map Tok.c)=l at *;simp only[RUo]
 (have F_:=xaO)
 rcases T with _|⟨t0,T0⟩
 all_goals simp only[ru,ruT,ruR,List.nil_append,List.cons_append] at h1 h2 h3 h4 ⊢<;>clear hH<;>(try generalize (t0::T0).map Test.c=E0 at *)<;>(try generalize (t0::(T0++[N])).map Test.c=E1 at *)<;>(try generalize [N].map Test.c=E1 at *)<;>refine xU zBs rfl ?_ (by kernel_rfl)<;>(simp only[zT,List.length_cons,List.length_nil,Nat.zero_add,Nat.reduceAdd];show W CC _ 132 (zA 78) _ _ _)<;>(refine gA ?_)<;>refine aJ ?_<;>exact⟨rfl,rfl⟩
end Go.Ab
