/- Lemmas. -/
import Derived.Test.YtchgjnkleakhoaaGreatDoorG09
import Derived.Test.YtchgjnkleakhoaaGreatDoorG10
set_option maxRecDepth 1000000
set_option maxHeartbeats 40000000
set_option linter.all false
namespace Go.Ab
open Go.Proofs
def yCx{nl cl:Bool}{L:List Tok}(hL:L.length<4000000000):∀(f m i d:Nat) (T:List Node) (r:RX),m≤7→PX L f (.lev m) i d T=some r→i≤L.length→d≤12→T.length+(L.length - i)≤4000000000 →
  Om CC 198 [.box 0 0,.t (.int .i64 (m:Int))] (rd (.sl nl cl (L.map Tok.c)) i d T)=some (r.o (.sl nl cl (L.map Tok.c))):=by
 intro f
 induction f using Nat.strongRecOn with
 |_ f ih =>
  intro m i d T r hm h hi hd hB;have hIH:∀k,k≤7→∀f',f'≤f→LevH nl cl L k f':=fun k hk f' hf g hg i d T r h hi hd hB=>ih g (by omega) k i d T r hk h hi hd hB
  have hgr:=zA6 _ _ _ _ _ _ h;have hgn:=zBp hgr;rcases f with _|f
  ·simp [PX] at h
  have hrow:∀n,(n=0∨n=1∨n=3∨n=4∨n=5)→PX L (f+1) (.lev n) i d T=some r →
    Om CC 275 [.box 0 0,.t (.int .i64 (n:Int)),.t (.bool (zFR n)),.t (.sl false false ((opsX n).map opsC))] (rd (.sl nl cl (L.map Tok.c)) i d T)=some (r.o (.sl nl cl (L.map Tok.c))) :=
   fun n hn h=>zZl hn (by omega) (hIH (n+1) (by omega) (f+1) (Nat.le_refl _)) h hi hd hB
  have hahead:∀n,(n=2∨n=6)→PX L (f+1) (.lev n) i d T=some r →
    Om CC 276 [.box 0 0,.t (.int .i64 (n:Int)),.t (.str (wX n)),.t (.int .u8 (oX n))] (rd (.sl nl cl (L.map Tok.c)) i d T)=some (r.o (.sl nl cl (L.map Tok.c))):=by
   intro n hn h;rw[PX,if_pos hn] at h;cases hw:isW L i (wX n) with
   |false =>
    rw[hw,if_neg (by simp)] at h;exact zUW (by omega) hw hgn (ih f (by omega) (n+1) i d T r (by omega) h hi hd hB)
   |true =>
    rw[hw,if_pos rfl] at h;have hlt:=yA hw
    by_cases hd12:d=12
    ·rw[if_pos hd12] at h;cases h;subst hd12;exact zPY (by omega) hw
    rw[if_neg hd12] at h;cases h1:PX L f (.lev n) (i+1) (d+1) T with
    |none=>rw[h1] at h;cases h
    |some r1 =>
     have hk:=xO _ _ _ _ _ _ h1 (by omega) (by omega) trivial;have hg1:=zBp (zA6 _ _ _ _ _ _ h1);have hc:=ih f (by omega) n (i+1) (d+1) T r1 (by omega) h1 (by omega) (by omega) (by omega);rw[h1] at h;cases r1 with
     |pan e i1 d1 T1=>cases h;exact zSn (by omega) (by omega) (by omega) hw hg1 hc
     |ok a i1 d1 T1 =>
      obtain⟨k1,k2,k3,k4,k5⟩:=hk;simp only[Cmd.dt] at k3;subst k3;dsimp only at h;rw[Nat.add_sub_cancel] at h;cases h;exact zUl (by omega) (by omega) (by omega) hw (fun hh=>by rw[hh] at k5;simp at k5) (by omega) hc
  have h8:m=0∨m=1∨m=2∨m=3∨m=4∨m=5∨m=6∨m=7:=by omega
  rcases h8 with rfl|rfl|rfl|rfl|rfl|rfl|rfl|rfl
  ·exact wlev0 hgn (yBX hgn (hrow 0 (by omega) h))
  ·exact wlev1 hgn (yA4 hgn (hrow 1 (by omega) h))
  ·exact wlev2 hgn (zZ5 hgn (hahead 2 (by omega) h))
  ·exact wlev3 hgn (zYl hgn (hrow 3 (by omega) h))
  ·exact wlev4 hgn (zZH hgn (hrow 4 (by omega) h))
  ·exact wlev5 hgn (zVJ hgn (hrow 5 (by omega) h))
  ·exact wlev6 hgn (zSY hgn (hahead 6 (by omega) h))
  refine wlev7 hgn ?_;rw[PX,if_neg (by omega),if_neg (by omega)] at h;cases ht:L[i]? with
  |none =>
   rw[ht] at h;cases h;exact zUp (by rcases Nat.lt_or_ge i L.length with h'|h';(· rw[List.getElem?_eq_getElem h'] at ht;cases ht);exact h')
  |some t =>
   have hlt:=getElem?_lt ht;rw[ht] at h;dsimp only at h;split at h
   ·rename_i hk;cases h;exact zTs ht (by omega) (by omega) hk
   rename_i hk1;split at h
   ·rename_i hk;cases h;exact zS7 ht (by omega) (by omega) hk
   rename_i hk2;split at h
   ·rename_i hk;cases h;exact zSu ht (by omega) (by omega) hk
   rename_i hk3;split at h
   ·rename_i hk;cases hc:wV t.s jZ with
    |some x =>
     obtain⟨op,least,most⟩:=x;rw[hc] at h;dsimp only at h;cases hw:isW L (i+1) [40] with
     |false =>
      rw[hw,if_neg (by simp)] at h;cases h;exact zHl ht hk hc hgn (zXe (p:=(t.line,t.col)) (by omega) hw)
     |true =>
      rw[hw,if_pos rfl] at h;have hlt2:=yA hw
      by_cases hd12:d=12
      ·rw[if_pos hd12] at h;cases h;subst hd12;exact zHl ht hk hc hgn (zRN (p:=(t.line,t.col)) (by omega) hw)
      rw[if_neg hd12] at h;exact zHl ht hk hc hgn (zWt (p:=(t.line,t.col)) hL (hIH 0 (by omega) f (by omega)) h hw (by omega) (by omega) (by omega))
    |none =>
     rw[hc] at h;dsimp only at h;cases hv:wV t.s zB8 with
     |some v =>
      rw[hv] at h;cases h;exact zSe ht (by omega) (by omega) hk hc hv
     |none =>
      rw[hv] at h;cases h;exact zOf ht hk hc hv
   rename_i hk4;have hkk:t.k≠4∧t.k≠5∧t.k≠6∧t.k≠2∧t.k≠3∧t.k≠1:=by omega
   cases hw:isW L i [40] with
   |false =>
    rw[hw,if_neg (by simp)] at h;cases h;exact zRs (i':=0) (d':=0) (a:=0) (T':=[]) (e:=0) ht (by omega) hkk hw
   |true =>
    rw[hw,if_pos rfl] at h
    by_cases hd12:d=12
    ·rw[if_pos hd12] at h;cases h;exact zRC (i':=0) (d':=0) (a:=0) (T':=[]) (e:=0) ht (by omega) hkk hw hd12
    rw[if_neg hd12] at h;cases h1:PX L f (.lev 0) (i+1) (d+1) T with
    |none=>rw[h1] at h;cases h
    |some r1 =>
     have hk:=xO _ _ _ _ _ _ h1 (by omega) (by omega) trivial;have hg1:=zBp (zA6 _ _ _ _ _ _ h1);have hc:=ih f (by omega) 0 (i+1) (d+1) T r1 (by omega) h1 (by omega) (by omega) (by omega);rw[h1] at h;cases r1 with
     |pan e i1 d1 T1=>cases h;exact zSU (a:=0) ht (by omega) hkk hw (by omega) hg1 hc
     |ok a i1 d1 T1 =>
      obtain⟨k1,k2,k3,k4,k5⟩:=hk;simp only[Cmd.dt] at k3;subst k3;dsimp only at h;cases hw2:isW L i1 [41] with
      |false =>
       rw[hw2,if_neg (by simp)] at h;cases h;exact zR2 (d':=0) (e:=0) ht (by omega) hkk hw (by omega) hg1 hc hw2
      |true =>
       rw[hw2,if_pos rfl,Nat.add_sub_cancel] at h;cases h;exact zSV (d':=0) (e:=0) ht (by omega) hkk hw (by omega) hg1 hc hw2 (by omega)
attribute [local irreducible] W RW RR
def zLz {C:Cfg} {m k:Nat} {keep:Nat→Option (List Nat)} {st:St} {u:Pn} {Q:Ex→St→Pn→Prop} {id d:Nat} {o:Oper} (hq:Q .normal ⟨(d,.t (recovered u).1)::st.T,st.h⟩ (recovered u).2) (ho:zA4 o=true:=by rfl) (hg:o.guard=none:=by rfl) (hd:o.dst=some d:=by rfl)
  (hk:qF k [o]=true:=by kernel_rfl):WS C m k keep (.region id #[o] false) st u Q:=by
 refine zVd (by simp [ho]) hk (T:=(d,.t (recovered u).1)::st.T) (h:=st.h) (u':=(recovered u).2) ?_ hq;have hw:wanted [o] st.T o=some true:=by unfold wanted;rw[hg]
 show qN C (Om C) [o] [o] st.T st.h u=_
 rw[qN,hw];dsimp only;rw[ho];dsimp only;rw[qN,hd]
 rfl
def xaJ:=c5 zF zG zE zD (c5 zNO zI zB zO (c5 zL zN zU zX (c5 zS yJ yK wP zTG)))
def zJH(ids:Nat×Nat×Nat×Nat)(h:Heap)(hc:canon h h.length []=some ([],h)) :
  Om CC (xD+197) (.t .nilptr::[.box ids.1 0,.box ids.2.1 0,.box ids.2.2.1 0,.box ids.2.2.2 0]) h=some (.val (.t .nilptr),h):=by
 obtain⟨u',h',h1,h2,h3⟩:=zG6 (C:=CC) (g:=197) (fn:=Tryz.f197) (u:=none) (args:=[.box ids.1 0,.box ids.2.1 0,.box ids.2.2.1 0,.box ids.2.2.2 0]) (h:=h)
  (R:=fun u h'=>u=none∧h'=h) (by kernel_rfl) (by kernel_rfl) zQL rfl (by kernel_rfl) rfl (by
  (have F_:=xaJ)
  have u20:und Tryz.prog 20=some (.interface #[]):=by kernel_rfl
  have xa:=zQQ 227;have bq:Nat.beq 227 227=true:=rfl;rw[bq] at xa
  show WS CC _ 18 (zA 197) _ _ _ _
  refine zLd rfl (zLz ?_)
  show W CC _ _ _ _ _ _
  simp only[recovered,zV,Nat.zero_add,Nat.reduceAdd]
  (refine gA ?_)
  exact⟨.inl rfl,by kernel_rfl,⟨.tup [],by kernel_rfl⟩,h,hc,rfl,rfl⟩)
 subst h2 h3;exact h1
def zLI (tv v4:AV) (l:Tree) (i d n5 n6 e:Int) (rest:Heap) (k1 k2 k3:Nat) (htv:(tv=.t (.sl true true [])∧rest=[]∧k1=2)∨∃E,tv=.hs 2 0∧rest=[.arr 8 0 false E]∧k1=3) :
  Om CC (xD+197) (.agg [.t (yZ e),.t (.bool false)]::[.box 0 0,.box k1 0,.box (k1+1) 0,.box (k1+2) 0]) ([.box [.box 1 0],.box [.t l,.t (.int .i64 i),.t (.int .i64 d),tv]]++rest++[.box [.t (.sl true true [])],.box [.t (.int .i64 n5)],.box [.t (.int .i64 n6)]])
   = some (.val (.t .nilptr),[.box [.box 1 0],.box [.t l,.t (.int .i64 i),.t (.int .i64 d),tv]]++rest++[.box [.t (.sl true true [])],.box [.t (.int .i64 i)],.box [.t (.int .i64 e)]]):=by
 obtain⟨u',h',h1,h2,h3⟩:=zG6 (C:=CC) (g:=197) (fn:=Tryz.f197) (u:=some (yZ e,false)) (args:=[.box 0 0,.box k1 0,.box (k1+1) 0,.box (k1+2) 0]) (h:=[.box [.box 1 0],.box [.t l,.t (.int .i64 i),.t (.int .i64 d),tv]]++rest++[.box [.t (.sl true true [])],.box [.t (.int .i64 n5)],.box [.t (.int .i64 n6)]])
  (R:=fun u h'=>u=none∧h'=[.box [.box 1 0],.box [.t l,.t (.int .i64 i),.t (.int .i64 d),tv]]++rest++[.box [.t (.sl true true [])],.box [.t (.int .i64 i)],.box [.t (.int .i64 e)]]) (by kernel_rfl) (by kernel_rfl) zQL rfl (by kernel_rfl) rfl (by
  (have F_:=xaJ)
  have u20:und Tryz.prog 20=some (.interface #[]):=by kernel_rfl
  have xa:=zQQ 227;have bq:Nat.beq 227 227=true:=rfl;rw[bq] at xa;rcases htv with ⟨rfl,rfl,rfl⟩|⟨E,rfl,rfl,rfl⟩
  all_goals (show WS CC _ 18 (zA 197) _ _ _ _)<;>refine zLd rfl (zLz ?_)<;>(show W CC _ _ _ _ _ _)<;>simp only[recovered,zV,Nat.zero_add,Nat.reduceAdd,List.append_nil,List.cons_append,List.nil_append,List.length_cons,List.length_nil,yZ]<;>(refine gA ?_)
  all_goals exact⟨.inl rfl,by kernel_rfl,⟨.tup [],by kernel_rfl⟩,_,by kernel_rfl,rfl,rfl⟩)
 subst h2 h3;exact h1
def zWl {C:Cfg} {f:FuncId} {fn:Func} {m:Nat} {g:FuncId} {cap ds:List AV} {u u':Pn} {T:Env} {h:Heap} {v:AV} {p:Patch} {r:Option (Out×Heap)} (hl:leave C (Om C) f fn m ds u' T (patch h p)=r) (hb:yX C.P g=true:=by kernel_rfl)
  (hc:uC (Om C) (nth h) [] h.length (xD+g) (pnAV u::([]++cap))=some (.val v,p):=by(simp only[pnAV,beq_true,beq_false,Bool.true_beq,Bool.false_beq,decide_true,decide_false,Int.ofNat_eq_natCast,List.length_map,List.getElem?_map,Option.map_some,wanted,exec1,zAq,uY,xBox,qS,wB,xLen,uQ,wK,xM,uZ,cellsOf,zM,opds,qA,get,putT,ret,retO,lit,lit1,patch,put1,load,loadCells,cut,zW,mkAgg,trees,nth,lenOf,indexAddr,storeAt,upd,splice,wO,wU,zAm,uM,uL,kA,kB,kE,kM,kN,zAf,convert,zAQ,zA0,zAP,zAI,zB4,zA1,zAU,zAS,zAK,zAN,zAX,kO,qU,qZ,qY,qW,kC,kD,qV,qX,uN,qL,Nat.beq,beq_self_eq_true,Nat.zero_add,Nat.add_zero,List.toList_toArray,List.map_cons,List.map_nil,List.length_cons,List.length_nil,List.take,List.drop,List.all_cons,List.all_nil,List.cons_append,List.nil_append,List.append_nil,Bool.and_true,Bool.true_and,Bool.not_true,Bool.not_false,Bool.and_self,if_true,if_false,reduceIte,Nat.reduceAdd,Nat.reduceLeDiff,Nat.reduceEqDiff,Sl.t,Val.c,Slot.c,Tpl.c,Fact.c,Bind.c,Node.c,Test.c,STest.c,Pat.c,intC,and_self,true_and,and_true,b00,b01,b02,b03,b04,b10,b11,b12,b13,b14,b20,b21,b22,b23,b24,b30,b31,b32,b33,b34,b40,b41,b42,b43,b44,zAk,uC,reach,wQ,refs,vY,catMap,depth,sub,sub1,renL,ren,renO,mem,place,fresh,xL,plain,zB2,back,zDq,zB7,vD,Way.id,Way.ver,vO,zCJ,getN,view,yO,xB,zCY,zZ,ne_eq,not_false_eq_true,cond_true,cond_false,zCe,Option.getD_some,elems,yE,wI,yV,xV,xV.go,zAp,qG,setN,List.replicate,Nat.mul_one,Nat.reduceMul,Nat.reduceLT,append,added,lens,kP,zCA,zDD,zFt,zEI,mfind,jU,zAZ,UInt8.reduceToNat,zBR,Ab.bound,Int.toNat_natCast,bne_self_eq_false,true_or,Nat.reduceLT,one1,zAG,deferred,jE,yI,zB5,jT,zBM,kQ,qM,vW,zCu,zCK,zEe,zEn,qK,Bool.or_true,Bool.or_false,Bool.true_or,Bool.false_or, *];exact rfl)) (hv:avPn v=some u':=by exact rfl):leave C (Om C) f fn m (.fn g [] cap::ds) u T h=r:=by
 rw[leave,hb];dsimp only;rw[hc];dsimp only;rw[hv];exact hl
def zUX {C:Cfg} {f:FuncId} {fn:Func} {m:Nat} {T:Env} {h h':Heap} {v v':AV} (h1:results C.P fn ⟨T,h⟩=some v:=by(simp only[patch,put1,zAm,results,qQ,zA5,Ab.get,Nat.beq,load,loadCells,nth,cut,mkAgg,trees,Option.map_some,List.map_cons,List.map_nil,List.length_cons,List.length_nil,List.take,List.drop,Nat.zero_add,Nat.add_zero,Nat.reduceAdd,Nat.reduceLeDiff,if_true,F_, *];exact rfl))
  (h2:yU C f m v h=some (v',h'):=by(first|exact qD _ _ _ _|exact jS _ _ _ _ _|exact jQ _ _ _ _ _ _|(simp only[patch,put1,yU,jV,qO,yO,view,elems,xB,patch,put1,catMap,canon,reach,wQ,refs,vY,depth,renL,ren,renO,sub,sub1,upto,mem,place,fresh,cond_true,Ab.get,nth,List.map,List.take,List.length_cons,List.length_nil,List.append_nil,List.nil_append,List.cons_append,Bool.and_true,vI,decide_true,decide_false,reduceIte,Nat.reduceEqDiff,Nat.reduceAdd,Nat.zero_add,Nat.beq,mkAgg,trees,if_true,F_]<;>exact rfl)|kernel_rfl)):leave C (Om C) f fn m [] none T h=some (.val v',h'):=by
 rw[leave,h1];dsimp only;rw[h2]
def LV(C:Cfg)(f:FuncId)(fn:Func)(m:Nat)(ds:List AV)(u:Pn)(T:Env)(h:Heap)(R:Out→Heap→Prop):Prop:=∃o h',leave C (Om C) f fn m ds u T h=some (o,h')∧R o h'
def zEz {C:Cfg} {f:FuncId} {fn:Func} {m:Nat} {T:Env} {h h':Heap} {v v':AV} {R:Out→Heap→Prop} (hr:R (.val v') h') (h1:results C.P fn ⟨T,h⟩=some v:=by(simp only[patch,put1,zAm,results,qQ,zA5,Ab.get,Nat.beq,load,loadCells,nth,cut,mkAgg,trees,Option.map_some,List.map_cons,List.map_nil,List.length_cons,List.length_nil,List.take,List.drop,Nat.zero_add,Nat.add_zero,Nat.reduceAdd,Nat.reduceLeDiff,if_true,F_, *];exact rfl))
  (h2:yU C f m v h=some (v',h'):=by(first|exact qD _ _ _ _|exact jS _ _ _ _ _|exact jQ _ _ _ _ _ _|(simp only[patch,put1,yU,jV,qO,yO,view,elems,xB,patch,put1,catMap,canon,reach,wQ,refs,vY,depth,renL,ren,renO,sub,sub1,upto,mem,place,fresh,cond_true,Ab.get,nth,List.map,List.take,List.length_cons,List.length_nil,List.append_nil,List.nil_append,List.cons_append,Bool.and_true,vI,decide_true,decide_false,reduceIte,Nat.reduceEqDiff,Nat.reduceAdd,Nat.zero_add,Nat.beq,mkAgg,trees,if_true,F_]<;>exact rfl)|kernel_rfl)):LV C f fn m [] none T h R :=
 ⟨_,_,zUX h1 h2,hr⟩
def zGc {C:Cfg} {f:FuncId} {fn:Func} {m:Nat} {g:FuncId} {cap ds:List AV} {u u':Pn} {T:Env} {h:Heap} {v:AV} {p:Patch} {R:Out→Heap→Prop} (hl:LV C f fn m ds u' T (patch h p) R) (hb:yX C.P g=true:=by kernel_rfl)
  (hc:uC (Om C) (nth h) [] h.length (xD+g) (pnAV u::([]++cap))=some (.val v,p):=by(simp only[pnAV,beq_true,beq_false,Bool.true_beq,Bool.false_beq,decide_true,decide_false,Int.ofNat_eq_natCast,List.length_map,List.getElem?_map,Option.map_some,wanted,exec1,zAq,uY,xBox,qS,wB,xLen,uQ,wK,xM,uZ,cellsOf,zM,opds,qA,get,putT,ret,retO,lit,lit1,patch,put1,load,loadCells,cut,zW,mkAgg,trees,nth,lenOf,indexAddr,storeAt,upd,splice,wO,wU,zAm,uM,uL,kA,kB,kE,kM,kN,zAf,convert,zAQ,zA0,zAP,zAI,zB4,zA1,zAU,zAS,zAK,zAN,zAX,kO,qU,qZ,qY,qW,kC,kD,qV,qX,uN,qL,Nat.beq,beq_self_eq_true,Nat.zero_add,Nat.add_zero,List.toList_toArray,List.map_cons,List.map_nil,List.length_cons,List.length_nil,List.take,List.drop,List.all_cons,List.all_nil,List.cons_append,List.nil_append,List.append_nil,Bool.and_true,Bool.true_and,Bool.not_true,Bool.not_false,Bool.and_self,if_true,if_false,reduceIte,Nat.reduceAdd,Nat.reduceLeDiff,Nat.reduceEqDiff,Sl.t,Val.c,Slot.c,Tpl.c,Fact.c,Bind.c,Node.c,Test.c,STest.c,Pat.c,intC,and_self,true_and,and_true,b00,b01,b02,b03,b04,b10,b11,b12,b13,b14,b20,b21,b22,b23,b24,b30,b31,b32,b33,b34,b40,b41,b42,b43,b44,zAk,uC,reach,wQ,refs,vY,catMap,depth,sub,sub1,renL,ren,renO,mem,place,fresh,xL,plain,zB2,back,zDq,zB7,vD,Way.id,Way.ver,vO,zCJ,getN,view,yO,xB,zCY,zZ,ne_eq,not_false_eq_true,cond_true,cond_false,zCe,Option.getD_some,elems,yE,wI,yV,xV,xV.go,zAp,qG,setN,List.replicate,Nat.mul_one,Nat.reduceMul,Nat.reduceLT,append,added,lens,kP,zCA,zDD,zFt,zEI,mfind,jU,zAZ,UInt8.reduceToNat,zBR,Ab.bound,Int.toNat_natCast,bne_self_eq_false,true_or,Nat.reduceLT,one1,zAG,deferred,jE,yI,zB5,jT,zBM,kQ,qM,vW,zCu,zCK,zEe,zEn,qK,Bool.or_true,Bool.or_false,Bool.true_or,Bool.false_or, *];exact rfl)) (hv:avPn v=some u':=by exact rfl):LV C f fn m (.fn g [] cap::ds) u T h R:=by
 obtain⟨o,h',h1,h2⟩:=hl;exact⟨o,h',zWl h1 hb hc hv,h2⟩
def zFV{C:Cfg}{f:FuncId}{fn:Func}{m:Nat}{R:Out→Heap→Prop}{st:St}{x:Tree}{ds:List AV}(hl:LV C f fn m ds (some (x,false)) st.T st.h R)(hd:yI fn.ntmps st.T=some ds:=by(simp only[yI,Ab.get,Nat.beq];exact rfl)):zLe C f fn m R (.pan (.t x)) st:=by
 obtain⟨o,h',h1,h2⟩:=hl;exact⟨x,rfl,ds,hd,o,h',h1,h2⟩
def zGd{C:Cfg}{f:FuncId}{fn:Func}{m:Nat}{R:Out→Heap→Prop}{st:St}{ds:List AV}(hl:LV C f fn m ds none st.T st.h R)(hd:yI fn.ntmps st.T=some ds:=by(simp only[yI,Ab.get,Nat.beq];exact rfl)):zLe C f fn m R .ret st:=by
 obtain⟨o,h',h1,h2⟩:=hl;exact⟨ds,hd,o,h',h1,h2⟩
def zDl{C:Cfg}{f:FuncId}{fn:Func}{m:Nat}{R:Out→Heap→Prop}{st:St}{ds:List AV}(hl:LV C f fn m ds none st.T st.h R)(hd:yI fn.ntmps st.T=some ds:=by(simp only[yI,Ab.get,Nat.beq];exact rfl)):zLe C f fn m R .normal st:=by
 obtain⟨o,h',h1,h2⟩:=hl;exact⟨ds,hd,o,h',h1,h2⟩
def wG(T:List Node):Tree:=.sl T.isEmpty T.isEmpty (T.map Node.c)
def resX(i:Nat):RX→List Node×Nat×Int
 |.ok _ i' _ T=>if 60<T.length then ([],i,7) else (T,i',0)
 |.pan e i' _ _=>([],i',e)
def zC5(x:List Node×Nat×Int):Out×Heap:=(.val (.tup [.t (wG x.1),.t (.int .i64 (x.2.1:Nat)),.t (.int .i64 x.2.2)]),[])
def zEq (nl cl:Bool) (L:List Tok) (hL:L.length<4000000000) (i:Nat) (hi:i≤L.length) :
  Om CC 146 [.t (.sl nl cl (L.map Tok.c)),.t (.int .i64 (i:Int))] []=some (zC5 (zH L i)):=by
 obtain⟨r,hr⟩:=zDQ hi;have hk:=xO _ _ _ _ _ _ hr hi (by omega) trivial;have hc:Om CC 198 [.box 0 0,.t (.int .i64 0)] (rd (.sl nl cl (L.map Tok.c)) i 0 [])=some (r.o (.sl nl cl (L.map Tok.c))):=yCx (nl:=nl) (cl:=cl) hL _ 0 i 0 [] r (by omega) hr hi (by omega) (by simp;omega);have hp:zH L i=resX i r:=by(unfold zH;rw[hr];cases r<;>rfl)
 rw[hp];have d0:decide ((i:Int)<0)=false:=by simp
 have d1:decide ((i:Int) > ((L.map Tok.c).length:Int))=false:=by simp;omega
 clear hr hp;generalize L.map Tok.c=l at *
 suffices hh:∃o h',Om CC 146 [.t (.sl nl cl l),.t (.int .i64 (i:Int))] []=some (o,h')∧(o,h')=zC5 (resX i r) by
  obtain⟨o,h',h1,h2⟩:=hh;rw[h1,h2]
 refine zHk zYw rfl ?_ (by kernel_rfl)
 (have F_:=c5 zF zG zE zD (c5 zI zB zO zL (c5 zN zU zX zS (c3 yJ yK (c2 yEA qT)))))
 have z0:((0:Nat):Int)=0:=rfl;cases r with
 |pan e i1 d1 T1 =>
  rcases T1 with _|⟨t1,R1⟩
  ·simp only[RX.o,rd,rdT,rdR,z0,yZ] at hc;have hdf:=zLI (.t (.sl true true [])) .nov (.sl nl cl l) i1 d1 0 0 e [] 2 0 0 (.inl ⟨rfl,rfl,rfl⟩);simp only[List.append_nil,List.cons_append,List.nil_append,Nat.reduceAdd,yZ] at hdf;clear hk z0
   (simp only[zV,List.length_cons,List.length_nil,Nat.zero_add,Nat.reduceAdd];show W CC _ 38 (zA 146) _ _ _)
   (refine gA ?_)
   refine zFV ?_;refine zGc ?_;refine zEz ?_
   rfl
  simp only[RX.o,rd,rdT,rdR,z0,yZ] at hc;generalize (t1::R1).map Node.c=E1 at *;have hdf:=zLI (.hs 2 0) .nov (.sl nl cl l) i1 d1 0 0 e [.arr 8 0 false E1] 3 0 0 (.inr ⟨E1,rfl,rfl,rfl⟩);simp only[List.append_nil,List.cons_append,List.nil_append,Nat.reduceAdd,yZ] at hdf;clear hk z0
  (simp only[zV,List.length_cons,List.length_nil,Nat.zero_add,Nat.reduceAdd];show W CC _ 38 (zA 146) _ _ _)
  (refine gA ?_)
  refine zFV ?_;refine zGc ?_;refine zEz ?_
  rfl
 |ok a i1 d1 T1 =>
  obtain⟨k1,k2,k3,k4,k5⟩:=hk;rcases T1 with _|⟨t1,R1⟩
  ·exact absurd k5 (by simp)
  simp only[RX.o,rd,rdT,rdR,z0,yZ] at hc;clear z0;have e1:resX i (.ok a i1 d1 (t1::R1))=if 60<(t1::R1).length then ([],i,7) else (t1::R1,i1,0):=rfl
  rw[e1];clear e1 k1 k2 k3 k4 k5;have hE:wG (t1::R1)=.sl false false ((t1::R1).map Node.c):=rfl;have hl:(t1::R1).length=((t1::R1).map Node.c).length:=by rw[List.length_map]
  by_cases h60:60<(t1::R1).length
  ·rw[if_pos h60];rw[hl] at h60;clear hE hl;generalize (t1::R1).map Node.c=E1 at *;have h60':decide ((E1.length:Int) > 60)=true:=by(rw[decide_eq_true_eq];omega)
   have hdf:=zJH (0,3,4,5) [.box [.box 1 0],.box [.t (.sl nl cl l),.t (.int .i64 (i1:Int)),.t (.int .i64 (d1:Int)),.hs 2 0],.arr 8 0 false E1,.box [.t (.sl true true [])],.box [.t (.int .i64 (i:Int))],.box [.t (.int .i64 7)]] (by kernel_rfl);dsimp only at hdf
   (simp only[zV,List.length_cons,List.length_nil,Nat.zero_add,Nat.reduceAdd];show W CC _ 38 (zA 146) _ _ _)
   (refine gA ?_)
   first|refine zGd ?_|refine zDl ?_
   refine zGc ?_;refine zEz ?_
   rfl
  rw[if_neg h60];rw[hl] at h60;have hE2:zC5 (t1::R1,i1,0)=(.val (.tup [.t (.sl false false ((t1::R1).map Node.c)),.t (.int .i64 (i1:Int)),.t (.int .i64 0)]),[]):=rfl;rw[hE2];clear hE hl hE2;generalize (t1::R1).map Node.c=E1 at *;have h60':decide ((E1.length:Int) > 60)=false:=by(rw[decide_eq_false_iff_not];omega)
  have hdf:=zJH (0,3,4,5) [.box [.box 1 0],.box [.t (.sl nl cl l),.t (.int .i64 (i1:Int)),.t (.int .i64 (d1:Int)),.hs 2 0],.arr 8 0 false E1,.box [.hs 2 0],.box [.t (.int .i64 (i1:Int))],.box [.t (.int .i64 0)]] (by kernel_rfl);dsimp only at hdf
  (simp only[zV,List.length_cons,List.length_nil,Nat.zero_add,Nat.reduceAdd];show W CC _ 38 (zA 146) _ _ _)
  (refine gA ?_)
  first|refine zGd ?_|refine zDl ?_
  refine zGc ?_;refine zEz ?_
  rfl
def strC(w:List Nat):List Tree:=[.str w]
def idxI(s:List Nat):List (List Nat)→Nat→Int
 |[],_=>-1
 |w::r,k=>if s=w then (k:Int) else idxI s r (k+1)
def hasW(s:List Nat)(ws:List (List Nat)):Bool:=ws.any fun w=>decide (s=w)
def zPd(s:List Nat):∀(ws:List (List Nat)) (k:Nat),decide (idxI s ws k ≥ 0)=hasW s ws
 |[],k=>rfl
 |w::r,k=>by
  unfold idxI hasW;rw[List.any_cons]
  by_cases h:s=w
  ·rw[if_pos h];simp [h]
  rw[if_neg h,zPd s r (k+1)];simp [h,hasW]
def zTb (x y:Bool) (ws:List (List Nat)) (s:List Nat) (hl:ws.length<9223372036854775807) :
  Om CC 41 [.t (.sl x y (ws.map strC)),.t (.str s)] []=some (.val (.t (.int .i64 (idxI s ws 0))),[]):=by
 have hol:ws.length=(ws.map strC).length:=by rw[List.length_map]
 have hE:∀j,(ws.map strC)[j]?=ws[j]?.map strC:=fun j=>List.getElem?_map
 generalize ws.map strC=E at *;generalize hr:idxI s ws 0=r;refine zK yBS rfl ?_
 (have F_:=c3 zG zD (c2 xC yG0);show W CC 0 19 (zA 41) _ ⟨[(0,_),(1,_)],[]⟩ _)
 (refine gA ?_)
 refine zY (α:=Nat) (fun j=>⟨[(0,.t (.sl x y E)),(1,.t (.str s)),(7,.t (.int .i64 (E.length:Int))),(8,.t (.int .i64 (j:Int)))],[]⟩) (fun j=>ws.length - j)
  (fun j=>j≤ws.length∧r=idxI s (ws.drop j) j) 0 (by exact aTd) ⟨Nat.zero_le _,hr.symm⟩ ?_
 rintro j ⟨hj,hI⟩
 by_cases hj':j<ws.length
 ·have hd:decide ((j:Int)<(E.length:Int))=true:=by rw[← hol];simpa using hj'
  have hEj:E[j]?=some [.str ws[j]]:=by rw[hE,List.getElem?_eq_getElem hj'];rfl
  have hX:idxI s (ws.drop j) j=if s=ws[j] then (j:Int) else idxI s (ws.drop (j+1)) (j+1):=by rw[List.drop_eq_getElem_cons hj',idxI]
  have hw:=wI64 j (by omega);generalize ws[j]=w at *;clear hE hr;rw[hol] at hj'
  by_cases hb:s=w
  ·have hbb:beqL s w=true:=by rw[vC];exact decide_eq_true hb
   rw[if_pos hb] at hX;clear hb;rw[hX] at hI;subst hI
   (refine gA ?_)
   all_goals refine aK ?_ ?_<;>(first|rfl)
  have hbb:beqL s w=false:=by rw[vC];exact decide_eq_false hb
  rw[if_neg hb] at hX;clear hb;have hI2:=hI.trans hX;clear hX hI
  (refine gA ?_)
  exact zC (j+1) (by omega) ⟨by omega,hI2⟩ (by exact aTd)
 obtain rfl:j=ws.length:=by omega
 have hd:decide ((ws.length:Int)<(E.length:Int))=false:=by rw[← hol];simp
 have hd2:decide ((E.length:Int)<(E.length:Int))=false:=by simp
 rw[List.drop_length,idxI] at hI;subst hI;clear hE hr
 (refine gA ?_)
 all_goals refine aK ?_ ?_<;>(first|rfl)
def zFr (x y:Bool) (ws:List (List Nat)) (s:List Nat) (hl:ws.length<9223372036854775807) :
  Om CC 29 [.t (.sl x y (ws.map strC)),.t (.str s)] []=some (.val (.t (.bool (hasW s ws))),[]):=by
 have h1:=zTb x y ws s hl;have h2:=zPd s ws 0;generalize ws.map strC=E at *;generalize idxI s ws 0=r at *;generalize hasW s ws=b at *;refine zK yCi rfl ?_
 (have F_:=c5 zG zD xC yHm yHP;show W CC 0 9 (zA 29) _ ⟨[(0,_),(1,_)],[]⟩ _)
 (refine gA ?_)
 all_goals refine aK ?_ ?_<;>(first|rfl|(clear F_;simp_all;done))
def ruT:List Test→AV
 |[]=>.t (.sl true true [])
 |_::_=>.hs 1 0
def ruR:List Test→Heap
 |[]=>[]
 |t::r=>[.arr 8 0 false ((t::r).map Test.c)]
def ru(l:Tree)(i n:Nat)(T:List Test):Heap:=.box [.t l,.t (.int .i64 (i:Int)),.t (.int .i64 (n:Int)),ruT T]::ruR T
def uisX(L:List Tok)(j:Nat)(ws:List (List Nat)):Bool :=
 match L[j]? with
 |some t=>(t.k==1||t.k==7)&&hasW t.s ws
 |none=>false
def zWm(L:List Tok)(j:Nat)(w:List Nat):uisX L j [w]=isW L j w:=by
 unfold uisX isW;cases L[j]? with
 |none=>rfl
 |some t=>simp only[hasW,List.any_cons,List.any_nil,Bool.or_false,zCb]
def zW5(L:List Tok)(j:Nat)(v w:List Nat):uisX L j [v,w]=(isW L j v||isW L j w):=by
 unfold uisX isW;cases L[j]? with
 |none=>rfl
 |some t=>simp only[hasW,List.any_cons,List.any_nil,Bool.or_false,zCb,Bool.and_or_distrib_left]
def xaK:=c5 zF zG zQ zE (c5 zD zI yM zB (c5 xC zO zL yL (c5 zN zX zS xZ (c3 xX zUI zLj))))
def zVl(nl cl x y:Bool)(L:List Tok)(i n on:Nat)(T:List Test)(ws:List (List Nat))(hl:ws.length<9223372036854775807)(hi:i+on<9223372036854775807) :
  Om CC 162 [.box 0 0,.t (.int .i64 (on:Int)),.t (.sl x y (ws.map strC))] (ru (.sl nl cl (L.map Tok.c)) i n T)=some (.val (.t (.bool (uisX L (i+on) ws))),ru (.sl nl cl (L.map Tok.c)) i n T):=by
 have hw:IntKind.i64.wrap ((i:Int)+(on:Int))=((i+on:Nat):Int):=by rw[wrap64]<;>omega
 generalize hj:i+on=j at *
 by_cases hi:j<L.length
 ·obtain⟨t,ht⟩:∃t,L[j]?=some t:=⟨_,List.getElem?_eq_getElem hi⟩;have hT:=vE ht;have hd:decide ((j:Int)<((L.map Tok.c).length:Int))=true:=by simpa using hi
  have hW:uisX L j ws=((t.k==1||t.k==7)&&hasW t.s ws):=by unfold uisX;rw[ht]
  have hs:=zFr x y ws t.s hl;rw[hW];clear hj ht;generalize L.map Tok.c=l at *;generalize ws.map strC=E at *;generalize hasW t.s ws=b0 at *;generalize hb1:(t.k==1)=b1 at *;generalize hb2:(t.k==7)=b2 at *;obtain⟨tk,ts,⟨vk,vn,vs⟩,tl,tc⟩:=t;dsimp only at *
  (have F_:=xaK)
  rcases T with _|⟨t0,T0⟩
  all_goals simp only[ru,ruT,ruR]<;>(try generalize (t0::T0).map Test.c=E0 at *)<;>refine zK zQD rfl ?_<;>(simp only[zV,List.length_cons,List.length_nil,Nat.zero_add,Nat.reduceAdd];show W CC _ 55 (zA 162) _ _ _)<;>(repeat' first|refine gA ?_|refine gT ?_ ?_<;>intro hv|fail)<;>refine aK ?_ ?_<;>(first|rfl|(clear F_;simp_all;done))
 have hd:decide ((j:Int)<((L.map Tok.c).length:Int))=false:=by simp;omega
 have hW:uisX L j ws=false:=by unfold uisX;rw[List.getElem?_eq_none (by omega)]
 rw[hW];clear hj;generalize L.map Tok.c=l at *;generalize ws.map strC=E at *
 (have F_:=xaK)
 rcases T with _|⟨t0,T0⟩
 all_goals simp only[ru,ruT,ruR]<;>(try generalize (t0::T0).map Test.c=E0 at *)<;>refine zK zQD rfl ?_<;>(simp only[zV,List.length_cons,List.length_nil,Nat.zero_add,Nat.reduceAdd];show W CC _ 55 (zA 162) _ _ _)<;>(refine gA ?_)<;>refine aK ?_ ?_<;>(first|rfl|(clear F_;simp_all;done))
def uis1 (nl cl:Bool) (L:List Tok) (i n:Nat) (T:List Test) (on:Nat) (w:List Nat) (hi:i+on<9223372036854775807) :
  Om CC 162 [.box 0 0,.t (.int .i64 (on:Int)),.t (.sl false false [[.str w]])] (ru (.sl nl cl (L.map Tok.c)) i n T)=some (.val (.t (.bool (isW L (i+on) w))),ru (.sl nl cl (L.map Tok.c)) i n T):=by
 rw[← zWm];exact zVl nl cl false false L i n on T [w] (by simp) hi
def uis2 (nl cl:Bool) (L:List Tok) (i n:Nat) (T:List Test) (v w:List Nat) (hi:i<9223372036854775807) :
  Om CC 162 [.box 0 0,.t (.int .i64 0),.t (.sl false false [[.str v],[.str w]])] (ru (.sl nl cl (L.map Tok.c)) i n T)=some (.val (.t (.bool (isW L i v||isW L i w))),ru (.sl nl cl (L.map Tok.c)) i n T):=by
 rw[← zW5];exact zVl nl cl false false L i n 0 T [v,w] (by simp) hi
def uis0 (nl cl:Bool) (L:List Tok) (i n:Nat) (T:List Test) (w:List Nat) (hi:i<9223372036854775807) :
  Om CC 162 [.box 0 0,.t (.int .i64 0),.t (.sl false false [[.str w]])] (ru (.sl nl cl (L.map Tok.c)) i n T)=some (.val (.t (.bool (isW L i w))),ru (.sl nl cl (L.map Tok.c)) i n T):=uis1 nl cl L i n T 0 w hi
def xaL:=c5 zF zG zQ zE (c5 zD zI yM zB (c5 xC zO zL yL (c5 zN zX zS xZ (c3 xX zTU qJ))))
def zOx (nl cl:Bool) (L:List Tok) (i n:Nat) (T:List Test) (hi:i<9223372036854775800) :
  Om CC 163 [.box 0 0,.t (.int .i64 1)] (ru (.sl nl cl (L.map Tok.c)) i n T)=some (.val (.t (.bool (qR L (i+1)))),ru (.sl nl cl (L.map Tok.c)) i n T):=by
 have h1:=uis1 nl cl L i n T 2 [58] (by omega);have hw:=wI64 i (by omega);have hw2:IntKind.i64.wrap (1+1)=2:=rfl;have hw3:((2:Nat):Int)=2:=rfl;rw[hw3] at h1;clear hw3
 by_cases hi':i+1<L.length
 ·obtain⟨t,ht⟩:∃t,L[i+1]?=some t:=⟨_,List.getElem?_eq_getElem hi'⟩;have hT:=vE ht;have hd:decide (((i+1:Nat):Int)<((L.map Tok.c).length:Int))=true:=by(rw[decide_eq_true_eq,List.length_map];omega)
  have hX:qR L (i+1)=(t.k==1&&isW L (i+2) [58]):=by unfold qR;rw[ht]
  rw[hX];clear hX ht hi';generalize L.map Tok.c=l at *;generalize isW L (i+2) [58]=b0 at *;generalize hb1:(t.k==1)=b1 at *;obtain⟨tk,ts,⟨vk,vn,vs⟩,tl,tc⟩:=t;dsimp only at *
  (have F_:=xaL)
  rcases T with _|⟨t0,T0⟩
  all_goals simp only[ru,ruT,ruR] at h1 ⊢<;>(try generalize (t0::T0).map Test.c=E0 at *)<;>refine zK zQN rfl ?_<;>(simp only[zV,List.length_cons,List.length_nil,Nat.zero_add,Nat.reduceAdd];show W CC _ 37 (zA 163) _ _ _)<;>(repeat' first|refine gA ?_|refine gT ?_ ?_<;>intro hv|fail)<;>refine aK ?_ ?_<;>(first|rfl|(clear F_;simp_all;done))
 have hd:decide (((i+1:Nat):Int)<((L.map Tok.c).length:Int))=false:=by(rw[decide_eq_false_iff_not,List.length_map];omega)
 have hX:qR L (i+1)=false:=by unfold qR;rw[List.getElem?_eq_none (by omega)]
 rw[hX];clear h1 hX hi';generalize L.map Tok.c=l at *
 (have F_:=xaL)
 rcases T with _|⟨t0,T0⟩
 all_goals simp only[ru,ruT,ruR]<;>(try generalize (t0::T0).map Test.c=E0 at *)<;>refine zK zQN rfl ?_<;>(simp only[zV,List.length_cons,List.length_nil,Nat.zero_add,Nat.reduceAdd];show W CC _ 37 (zA 163) _ _ _)<;>(refine gA ?_)<;>refine aK ?_ ?_<;>(first|rfl|(clear F_;simp_all;done))
def zQi(P:Program)(t:TypeId):Bool:=match und P t with
 |some (.struct _)=>true
 |_=>false
def zSt{P:Program}{t:TypeId}(h:zQi P t=true):∃fs,und P t=some (.struct fs):=by
 unfold zQi at h;split at h
 ·rename_i fs h';exact⟨fs,h'⟩
 cases h
def zKI:∃fs,und Tryz.prog 243=some (.struct fs):=zSt (by kernel_rfl)
def ustop(i:Nat)(e:Int):Tree:=.ifc 243 (.agg [.int .i64 (i:Int),.int .i64 e])
def zKa(l:Tree)(i n:Nat)(T:List Test)(e:Int):Om CC 205 [.box 0 0,.t (.int .i64 e)] (ru l i n T)=some (.pan (.t (ustop i e)),ru l i n T):=by
 unfold ustop;obtain⟨fs,h133⟩:=zKI
 (have F_:=c5 zF zG zQ zE (c5 zD zI yM zB (c5 zO zL yL zN (c5 zU zX zS xZ (c3 xX zN3 yEm)))))
 rcases T with _|⟨t0,T0⟩
 all_goals simp only[ru,ruT,ruR] at ⊢<;>(try generalize (t0::T0).map Test.c=E0 at *)<;>refine zCW yAi rfl ?_<;>(simp only[zV,List.length_cons,List.length_nil,Nat.zero_add,Nat.reduceAdd];show W CC _ 11 (zA 205) _ _ _)<;>(refine gA ?_)<;>((refine aLp2 ?_ ?_))<;>(first|rfl|(clear F_;simp_all;done))
def zOv (nl cl:Bool) (L:List Tok) (i n:Nat) (T:List Test) (E9:List (List Tree)) (h:Om CC 162 [.box 0 0,.t (.int .i64 0),.t (.sl false false E9)] (ru (.sl nl cl (L.map Tok.c)) i n T)=some (.val (.t (.bool false)),ru (.sl nl cl (L.map Tok.c)) i n T)) :
  Om CC 206 [.box 0 0,.t (.sl false false E9)] (ru (.sl nl cl (L.map Tok.c)) i n T)=some (.pan (.t (ustop i 4)),ru (.sl nl cl (L.map Tok.c)) i n T):=by
 have h1:=zKa (.sl nl cl (L.map Tok.c)) i n T 4;unfold ustop at *;generalize Tree.sl nl cl (L.map Tok.c)=l at *
 (have F_:=c5 zF zG zQ zE (c5 zD zI yM zB (c5 xC zO zL yL (c5 zN zU zX zS (c5 xZ xX zVp qJ zAL)))))
 rcases T with _|⟨t0,T0⟩
 all_goals simp only[ru,ruT,ruR] at h h1 ⊢<;>(try generalize (t0::T0).map Test.c=E0 at *)<;>refine zCW zQY rfl ?_<;>(simp only[zV,List.length_cons,List.length_nil,Nat.zero_add,Nat.reduceAdd];show W CC _ 30 (zA 206) _ _ _)<;>(refine gA ?_)<;>((refine aLp2 ?_ ?_))<;>(first|rfl|(clear F_;simp_all;done))
def zG2 (nl cl:Bool) (L:List Tok) (i n:Nat) (T:List Test) (E9:List (List Tree)) (t:Tok) (ht:L[i]?=some t) (hi:i<9223372036854775800) (h:Om CC 162 [.box 0 0,.t (.int .i64 0),.t (.sl false false E9)] (ru (.sl nl cl (L.map Tok.c)) i n T)=some (.val (.t (.bool true)),ru (.sl nl cl (L.map Tok.c)) i n T)) :
  Om CC 206 [.box 0 0,.t (.sl false false E9)] (ru (.sl nl cl (L.map Tok.c)) i n T)=some (.val (.t (.str t.s)),ru (.sl nl cl (L.map Tok.c)) (i+1) n T):=by
 have hw:=wI64 i (by omega);have hw2:IntKind.i64.wrap (((i+1:Nat):Int) - 1)=(i:Int):=by rw[wrap64]<;>omega
 have hT:=vE ht;clear ht;generalize L.map Tok.c=l at *;obtain⟨tk,ts,⟨vk,vn,vs⟩,tl,tc⟩:=t;dsimp only at *
 (have F_:=c5 zF zG zQ zE (c5 zD zI yM zB (c5 xC zO zL yL (c5 zN zU zX zS (c3 xZ xX (c2 zVp qJ))))))
 rcases T with _|⟨t0,T0⟩
 all_goals simp only[ru,ruT,ruR] at h ⊢<;>(try generalize (t0::T0).map Test.c=E0 at *)<;>refine zK zQY rfl ?_<;>(simp only[zV,List.length_cons,List.length_nil,Nat.zero_add,Nat.reduceAdd];show W CC _ 30 (zA 206) _ _ _)<;>(refine gA ?_)<;>refine aK ?_ ?_<;>(first|rfl|(clear F_;simp_all;done))
def xaM:=c5 zF zG zQ zE (c5 zD zI yM zB (c5 zO zL yL zN (c5 zX zS xZ xX zTc)))
def jM (nl cl:Bool) (L:List Tok) (i n:Nat) (T:List Test) :
  Om CC 160 [.box 0 0] (ru (.sl nl cl (L.map Tok.c)) i n T)=some (.val (.t (.agg [.int .i64 (plW L i).1,.int .i64 (plW L i).2])),ru (.sl nl cl (L.map Tok.c)) i n T):=by
 by_cases hi:i<L.length
 ·obtain⟨t,ht⟩:∃t,L[i]?=some t:=⟨_,List.getElem?_eq_getElem hi⟩;have hT:=vE ht;have hd:decide ((i:Int)<((L.map Tok.c).length:Int))=true:=by simpa using hi
  have hP:plW L i=(t.line,t.col):=by unfold plW;rw[ht]
  rw[hP];clear hP ht;generalize L.map Tok.c=l at *;obtain⟨tk,ts,⟨vk,vn,vs⟩,tl,tc⟩:=t;dsimp only at *
  (have F_:=xaM)
  rcases T with _|⟨t0,T0⟩
  all_goals simp only[ru,ruT,ruR]<;>(try generalize (t0::T0).map Test.c=E0 at *)<;>refine zK zQb rfl ?_<;>(simp only[zV,List.length_cons,List.length_nil,Nat.zero_add,Nat.reduceAdd];show W CC _ 25 (zA 160) _ _ _)<;>(refine gA ?_)<;>refine aK ?_ ?_<;>(first|rfl|(clear F_;simp_all;done))
 have hd:decide ((i:Int)<((L.map Tok.c).length:Int))=false:=by simp;omega
 have hP:plW L i=(0,0):=by unfold plW;rw[List.getElem?_eq_none (by omega)]
 rw[hP];clear hP;generalize L.map Tok.c=l at *
 (have F_:=xaM)
 rcases T with _|⟨t0,T0⟩
 all_goals simp only[ru,ruT,ruR]<;>(try generalize (t0::T0).map Test.c=E0 at *)<;>refine zK zQb rfl ?_<;>(simp only[zV,List.length_cons,List.length_nil,Nat.zero_add,Nat.reduceAdd];show W CC _ 25 (zA 160) _ _ _)<;>(refine gA ?_)<;>refine aK ?_ ?_<;>(first|rfl|(clear F_;simp_all;done))
def zBV (l:Tree) (i n:Nat) (T:List Test) (x:Test) (hT:T.length<4294967295) :
  Om CC 164 [.box 0 0,.t (.agg x.c)] (ru l i n T)=some (.val (.t (.int .i64 (T.length:Nat))),ru l i n (T++[x])):=by
 obtain⟨op,⟨anl,acl,al⟩,⟨bnl,bcl,bl⟩,low,high,⟨knl,kcl,kl⟩,line,col⟩:=x;have hx:Test.c ⟨op,⟨anl,acl,al⟩,⟨bnl,bcl,bl⟩,low,high,⟨knl,kcl,kl⟩,line,col⟩=[.int .u8 op,.sl anl acl (al.map Node.c),.sl bnl bcl (bl.map Node.c),.bool low,.bool high,.sl knl kcl (kl.map intC),.int .i64 line,.int .i64 col]:=rfl;have hl:T.length=(T.map Test.c).length:=by rw[List.length_map]
 have hlen:lens 8 (T.map Test.c)=true:=by unfold lens;rw[List.all_map];exact List.all_eq_true.2 fun x _=>rfl
 rw[hl] at hT ⊢;have hsm:decide ((T.map Test.c).length+1<4294967296)=true:=by(rw[decide_eq_true_eq];omega)
 have hw:IntKind.i64.wrap ((((T.map Test.c).length+1:Nat):Int) - 1)=((T.map Test.c).length:Int):=by rw[wrap64]<;>omega
 have hw1:IntKind.i64.wrap (((1:Nat):Int) - 1)=0:=rfl;rw[hx];clear hl;generalize hN:(⟨op,⟨anl,acl,al⟩,⟨bnl,bcl,bl⟩,low,high,⟨knl,kcl,kl⟩,line,col⟩:Test)=N at *;clear hN
 (have F_:=c5 zF zG zQ zE (c5 zD zI yM zB (c5 zO zL yL zN (c5 zX zS xZ xX yB3))))
 rcases T with _|⟨t0,T0⟩
 ·simp only[ru,ruT,ruR,List.nil_append];have e1:[N].map Test.c=[N.c]:=rfl;rw[e1,hx];generalize al.map Node.c=A at *;generalize bl.map Node.c=B at *;generalize kl.map intC=K at *;clear hx hw hsm hlen hT e1;refine zK zP0 rfl ?_
  (simp only[zV,List.length_cons,List.length_nil,Nat.zero_add,Nat.reduceAdd];show W CC _ 21 (zA 164) _ _ _)
  (refine gA ?_)
  all_goals refine aK ?_ ?_<;>(first|rfl|(clear F_;simp_all;done))
 simp only[ru,ruT,ruR,List.cons_append];have e1:(t0::(T0++[N])).map Test.c=(t0::T0).map Test.c++[N.c]:=by
  rw[← List.cons_append,List.map_append];rfl
 rw[e1,hx];generalize (t0::T0).map Test.c=E at *;generalize al.map Node.c=A at *;generalize bl.map Node.c=B at *;generalize kl.map intC=K at *;clear hx hw1 e1;refine zK zP0 rfl ?_
 (simp only[zV,List.length_cons,List.length_nil,Nat.zero_add,Nat.reduceAdd];show W CC _ 21 (zA 164) _ _ _)
 (refine gA ?_)
 all_goals refine aK ?_ ?_<;>(first|rfl|(clear F_;simp_all;done))
def zFd (nl cl:Bool) (L:List Tok) (hL:L.length<4000000000) (i n:Nat) (T:List Test) (hi:i≤L.length) :
  Om CC 204 [.box 0 0] (ru (.sl nl cl (L.map Tok.c)) i n T)=some (.val (.t (.bool ((zH L i).2.2==0))),ru (.sl nl cl (L.map Tok.c)) i n T):=by
 have h1:=zEq nl cl L hL i hi;simp only[zC5,wG] at h1;generalize zH L i=r at *;obtain⟨N,j,e⟩:=r;dsimp only at *;generalize N.map Node.c=A at *;generalize Tree.sl nl cl (L.map Tok.c)=l at *
 (have F_:=c5 zF zG zQ zE (c5 zD zI yM zB (c5 zO zL yL zN (c5 zU zX zS xZ (c3 xX yET zCy)))))
 rcases T with _|⟨t0,T0⟩
 all_goals simp only[ru,ruT,ruR] at ⊢<;>(try generalize (t0::T0).map Test.c=E0 at *)<;>refine zK zZ6 rfl ?_<;>(simp only[zV,List.length_cons,List.length_nil,Nat.zero_add,Nat.reduceAdd];show W CC _ 21 (zA 204) _ _ _)<;>(refine gA ?_)<;>refine aK ?_ ?_<;>(first|rfl|(clear F_;simp_all;done))
def zFm (nl cl:Bool) (L:List Tok) (hL:L.length<4000000000) (i n:Nat) (T:List Test) (hi:i≤L.length) (he:(zH L i).2.2=0) :
  Om CC 208 [.box 0 0] (ru (.sl nl cl (L.map Tok.c)) i n T)=some (.val (.t (wG (zH L i).1)),ru (.sl nl cl (L.map Tok.c)) (zH L i).2.1 n T):=by
 have h1:=zEq nl cl L hL i hi;simp only[zC5,wG] at h1 ⊢;generalize zH L i=r at *;obtain⟨N,j,e⟩:=r;dsimp only at *;subst he;generalize N.map Node.c=A at *;generalize Tree.sl nl cl (L.map Tok.c)=l at *
 (have F_:=c5 zF zG zQ zE (c5 zD zI yM zB (c5 zO zL yL zN (c5 zU zX zS xZ (c3 xX zSR zCy)))))
 rcases T with _|⟨t0,T0⟩
 all_goals simp only[ru,ruT,ruR] at ⊢<;>(try generalize (t0::T0).map Test.c=E0 at *)<;>refine zK zQd rfl ?_<;>(simp only[zV,List.length_cons,List.length_nil,Nat.zero_add,Nat.reduceAdd];show W CC _ 29 (zA 208) _ _ _)<;>(refine gA ?_)<;>refine aK ?_ ?_<;>(first|rfl|(clear F_;simp_all;done))
def zGM (nl cl:Bool) (L:List Tok) (hL:L.length<4000000000) (i n:Nat) (T:List Test) (hi:i≤L.length) (he:(zH L i).2.2≠0) :
  Om CC 208 [.box 0 0] (ru (.sl nl cl (L.map Tok.c)) i n T)=some (.pan (.t (ustop (zH L i).2.1 (zH L i).2.2)),ru (.sl nl cl (L.map Tok.c)) (zH L i).2.1 n T):=by
 have h1:=zEq nl cl L hL i hi;have h2:=zKa (.sl nl cl (L.map Tok.c)) (zH L i).2.1 n T (zH L i).2.2;simp only[zC5,wG,ustop] at h1 h2 ⊢;generalize zH L i=r at *;obtain⟨N,j,e⟩:=r;dsimp only at *;have he':(e != 0)=true:=by simpa using he
 clear he;generalize N.map Node.c=A at *;generalize Tree.sl nl cl (L.map Tok.c)=l at *
 (have F_:=c5 zF zG zQ zE (c5 zD zI yM zB (c5 zO zL yL zN (c5 zU zX zS xZ (c3 xX zSR (c2 zCy zAL))))))
 rcases T with _|⟨t0,T0⟩
 all_goals simp only[ru,ruT,ruR] at h2 ⊢<;>(try generalize (t0::T0).map Test.c=E0 at *)<;>refine zCW zQd rfl ?_<;>(simp only[zV,List.length_cons,List.length_nil,Nat.zero_add,Nat.reduceAdd];show W CC _ 29 (zA 208) _ _ _)<;>(refine gA ?_)<;>((refine aLp2 ?_ ?_))<;>(first|rfl|(clear F_;simp_all;done))
def xaN:=c5 zF zG zQ zE (c5 zD zI yM zB (c5 xC zO zL yL (c5 zN zU zX zS (c5 xZ xX zVt qJ zCy))))
def zET (nl cl:Bool) (L:List Tok) (hL:L.length<4000000000) (i n:Nat) (T:List Test) (hi:i≤L.length) :
  Om CC 207 [.box 0 0] (ru (.sl nl cl (L.map Tok.c)) i n T)=some (.val (.t (.bool (xQ L i))),ru (.sl nl cl (L.map Tok.c)) i n T):=by
 have h1:=uis2 nl cl L i n T [91] [40] (by omega);have hX:xQ L i=((isW L i [91]||isW L i [40])&&((zH L (i+1)).2.2==0&&isW L (zH L (i+1)).2.1 [46,46])):=rfl;rw[hX];have hw:=wI64 i (by omega);cases hb:(isW L i [91]||isW L i [40]) with
 |false =>
  rw[hb] at h1;rw[Bool.false_and];clear hX hb;generalize Tree.sl nl cl (L.map Tok.c)=l at *
  (have F_:=xaN)
  rcases T with _|⟨t0,T0⟩
  all_goals simp only[ru,ruT,ruR] at h1 ⊢<;>(try generalize (t0::T0).map Test.c=E0 at *)<;>refine zK zQU rfl ?_<;>(simp only[zV,List.length_cons,List.length_nil,Nat.zero_add,Nat.reduceAdd];show W CC _ 37 (zA 207) _ _ _)<;>(refine gA ?_)<;>refine aK ?_ ?_<;>(first|rfl)
 |true =>
  rw[hb] at h1;rw[Bool.true_and];have hlt:i<L.length:=by
   rw[Bool.or_eq_true] at hb;rcases hb with h|h<;>exact yA h
  have h2:=zEq nl cl L hL (i+1) hlt;have hle:=zDf (l:=L) (i:=i+1) hlt;have h3:=uis0 nl cl L (zH L (i+1)).2.1 0 [] [46,46] (by omega);simp only[zC5,wG] at h2;clear hX hb;generalize isW L (zH L (i+1)).2.1 [46,46]=b0 at *;generalize zH L (i+1)=r at *;obtain⟨N,j,e⟩:=r;dsimp only at *;generalize N.map Node.c=A at *;simp only[ru,ruT,ruR] at h3;have z0:((0:Nat):Int)=0:=rfl;rw[z0] at h3;clear z0;generalize L.map Tok.c=l at *
  (have F_:=xaN)
  rcases T with _|⟨t0,T0⟩
  all_goals simp only[ru,ruT,ruR] at h1 ⊢<;>(try generalize (t0::T0).map Test.c=E0 at *)<;>refine zK zQU rfl ?_<;>(simp only[zV,List.length_cons,List.length_nil,Nat.zero_add,Nat.reduceAdd];show W CC _ 37 (zA 207) _ _ _)<;>(repeat' first|refine gA ?_|refine gT ?_ ?_<;>intro hv|fail)<;>refine aK ?_ ?_<;>(first|rfl|(clear F_;simp_all;done))
def RUo(l:Tree)(T:List Test)(r:RU)(o:Out)(h':Heap):Prop :=
 match r with
 |.ok k i n T'=>o=.val (.t (.int .i64 (k:Nat)))∧h'=ru l i n T'
 |.pan e i=>o=.pan (.t (ustop i e))∧∃n' T',h'=ru l i n' T'∧(T≠[]→T'≠[])
 |.oks _ _ _ _=>False
def zC7 (op:Int) (low high:Bool) (kids:List Nat) (p:Int×Int) (a b:List Node) :
  (xJ op a b low high kids p).c=[.int .u8 op,wG a,wG b,.bool low,.bool high,.sl kids.isEmpty kids.isEmpty ((xA kids).map intC),.int .i64 p.1,.int .i64 p.2]:=by
 unfold xJ Test.c wG;cases a<;>cases b<;>cases kids<;>rfl
def xaO:=c5 zF zG zQ zE (c5 zD zI yM zB (c5 xC zO zL yL (c5 zN zU zX zS (c5 zAV zAR xZ xX (c5 zBE qJ zBK zBJ (c5 zBI zAF zAH zB3 (c2 zAL zCI)))))))
def zVL {nl cl:Bool} {L:List Tok} (hL:L.length<4000000000) {i n:Nat} {T:List Test} (hi:i≤L.length) (hT:T.length<4294967295) (h:anyX L i=true) :
  ∃o h',Om CC 161 [.box 0 0] (ru (.sl nl cl (L.map Tok.c)) i n T)=some (o,h')∧RUo (.sl nl cl (L.map Tok.c)) T (.ok T.length (i+1) n (T++[xJ 1 [] [] false false [] (plW L i)])) o h':=by
 unfold anyX at h;rw[Bool.and_eq_true] at h;have h1:=uis0 nl cl L i n T [45] (by omega);have h2:=zFd nl cl L hL i n T hi;have h3:=jM nl cl L i n T;have hb:((zH L i).2.2==0)=false:=by(have:=h.2;simp at this ⊢;exact this)
 rw[h.1] at h1;rw[hb] at h2;have hw:=wI64 i (by omega);have h4:=zBV (.sl nl cl (L.map Tok.c)) (i+1) n T (xJ 1 [] [] false false [] (plW L i)) hT;rw[zC7] at h4;clear h hb;simp only[wG,List.isEmpty_nil,xA,List.map_nil] at h4;generalize xJ 1 [] [] false false [] (plW L i)=N at *;generalize (plW L i).1=p1 at *;generalize (plW L i).2=p2 at *;generalize hlenT:T.length=lenT at *;generalize Tree.sl nl cl (L.map Tok.c)=l at *;simp only[RUo]
 (have F_:=xaO)
 rcases T with _|⟨t0,T0⟩
 all_goals simp only[ru,ruT,ruR,List.nil_append,List.cons_append] at h1 h2 h3 h4 ⊢<;>clear hlenT<;>(try generalize (t0::T0).map Test.c=E0 at *)<;>(try generalize (t0::(T0++[N])).map Test.c=E1 at *)<;>(try generalize [N].map Test.c=E1 at *)<;>refine xU zAT rfl ?_ (by kernel_rfl)<;>(simp only[zV,List.length_cons,List.length_nil,Nat.zero_add,Nat.reduceAdd];show W CC _ 132 (zA 161) _ _ _)<;>(refine gA ?_)<;>refine aJ ?_<;>exact⟨rfl,rfl⟩
end Go.Ab
