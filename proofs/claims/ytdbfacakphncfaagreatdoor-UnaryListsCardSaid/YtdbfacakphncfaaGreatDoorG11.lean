/- Lemmas. -/
import Derived.Test.YtdbfacakphncfaaGreatDoorG09
import Derived.Test.YtdbfacakphncfaaGreatDoorG10
set_option maxRecDepth 1000000
set_option maxHeartbeats 4000000
set_option linter.unusedSimpArgs false
set_option linter.unusedVariables false
namespace Go.Ab
open Go.Proofs
theorem zYX{nl cl:Bool}{L:List Tok}(hL:L.length<4000000000):∀(f m i d:Nat) (T:List Node) (r:RX),m≤7→PX L f (.lev m) i d T=some r→i≤L.length→d≤12→T.length+(L.length - i)≤4000000000 →
  Om CC 186 [.box 0 0,.t (.int .i64 (m:Int))] (rd (.sl nl cl (L.map Tok.c)) i d T)=some (r.o (.sl nl cl (L.map Tok.c))):=by
 intro f
 induction f using Nat.strongRecOn with
 |_ f ih =>
  intro m i d T r hm h hi hd hB;have hIH:∀k,k≤7→∀f',f'≤f→LevH nl cl L k f':=fun k hk f' hf g hg i d T r h hi hd hB=>ih g (by omega) k i d T r hk h hi hd hB
  have hgr:=jM _ _ _ _ _ _ h;have hgn:=kF hgr;rcases f with _|f
  ·simp [PX] at h
  have hrow:∀n,(n=0∨n=1∨n=3∨n=4∨n=5)→PX L (f+1) (.lev n) i d T=some r →
    Om CC 254 [.box 0 0,.t (.int .i64 (n:Int)),.t (.bool (zHY n)),.t (.sl false false ((opsX n).map opsC))] (rd (.sl nl cl (L.map Tok.c)) i d T)=some (r.o (.sl nl cl (L.map Tok.c))) :=
   fun n hn h=>zVD hn (by omega) (hIH (n+1) (by omega) (f+1) (Nat.le_refl _)) h hi hd hB
  have hahead:∀n,(n=2∨n=6)→PX L (f+1) (.lev n) i d T=some r →
    Om CC 255 [.box 0 0,.t (.int .i64 (n:Int)),.t (.str (wX n)),.t (.int .u8 (oX n))] (rd (.sl nl cl (L.map Tok.c)) i d T)=some (r.o (.sl nl cl (L.map Tok.c))):=by
   intro n hn h;rw[PX,if_pos hn] at h;cases hw:isW L i (wX n) with
   |false =>
    rw[hw,if_neg (by simp)] at h;exact zRf (by omega) hw hgn (ih f (by omega) (n+1) i d T r (by omega) h hi hd hB)
   |true =>
    rw[hw,if_pos rfl] at h;have hlt:=yC hw
    by_cases hd12:d=12
    ·rw[if_pos hd12] at h;cases h;subst hd12;exact zNL (by omega) hw
    rw[if_neg hd12] at h;cases h1:PX L f (.lev n) (i+1) (d+1) T with
    |none=>rw[h1] at h;cases h
    |some r1 =>
     have hk:=xQ _ _ _ _ _ _ h1 (by omega) (by omega) trivial;have hg1:=kF (jM _ _ _ _ _ _ h1);have hc:=ih f (by omega) n (i+1) (d+1) T r1 (by omega) h1 (by omega) (by omega) (by omega);rw[h1] at h;cases r1 with
     |pan e i1 d1 T1=>cases h;exact zPb (by omega) (by omega) (by omega) hw hg1 hc
     |ok a i1 d1 T1 =>
      obtain⟨k1,k2,k3,k4,k5⟩:=hk;simp only[Cmd.dt] at k3;subst k3;dsimp only at h;rw[Nat.add_sub_cancel] at h;cases h;exact zQi (by omega) (by omega) (by omega) hw (fun hh=>by rw[hh] at k5;simp at k5) (by omega) hc
  have h8:m=0∨m=1∨m=2∨m=3∨m=4∨m=5∨m=6∨m=7:=by omega
  rcases h8 with rfl|rfl|rfl|rfl|rfl|rfl|rfl|rfl
  ·exact wlev0 hgn (yAi hgn (hrow 0 (by omega) h))
  ·exact wlev1 hgn (zXt hgn (hrow 1 (by omega) h))
  ·exact wlev2 hgn (zVt hgn (hahead 2 (by omega) h))
  ·exact wlev3 hgn (zWA hgn (hrow 3 (by omega) h))
  ·exact wlev4 hgn (zVn hgn (hrow 4 (by omega) h))
  ·exact wlev5 hgn (zTC hgn (hrow 5 (by omega) h))
  ·exact wlev6 hgn (zRh hgn (hahead 6 (by omega) h))
  refine wlev7 hgn ?_;rw[PX,if_neg (by omega),if_neg (by omega)] at h;cases ht:L[i]? with
  |none =>
   rw[ht] at h;cases h;exact zRD (by rcases Nat.lt_or_ge i L.length with h'|h';(· rw[List.getElem?_eq_getElem h'] at ht;cases ht);exact h')
  |some t =>
   have hlt:=getElem?_lt ht;rw[ht] at h;dsimp only at h;split at h
   ·rename_i hk;cases h;exact zQ4 ht (by omega) (by omega) hk
   rename_i hk1;split at h
   ·rename_i hk;cases h;exact zRc ht (by omega) (by omega) hk
   rename_i hk2;split at h
   ·rename_i hk;cases h;exact zPC ht (by omega) (by omega) hk
   rename_i hk3;split at h
   ·rename_i hk;cases hc:kN t.s zCI with
    |some x =>
     obtain⟨op,least,most⟩:=x;rw[hc] at h;dsimp only at h;cases hw:isW L (i+1) [40] with
     |false =>
      rw[hw,if_neg (by simp)] at h;cases h;exact zFO ht hk hc hgn (zT1 (p:=(t.line,t.col)) (by omega) hw)
     |true =>
      rw[hw,if_pos rfl] at h;have hlt2:=yC hw
      by_cases hd12:d=12
      ·rw[if_pos hd12] at h;cases h;subst hd12;exact zFO ht hk hc hgn (zO1 (p:=(t.line,t.col)) (by omega) hw)
      rw[if_neg hd12] at h;exact zFO ht hk hc hgn (zTe (p:=(t.line,t.col)) hL (hIH 0 (by omega) f (by omega)) h hw (by omega) (by omega) (by omega))
    |none =>
     rw[hc] at h;dsimp only at h;cases hv:kN t.s zDh with
     |some v =>
      rw[hv] at h;cases h;exact zPj ht (by omega) (by omega) hk hc hv
     |none =>
      rw[hv] at h;cases h;exact zMR ht hk hc hv
   rename_i hk4;have hkk:t.k≠4∧t.k≠5∧t.k≠6∧t.k≠2∧t.k≠3∧t.k≠1:=by omega
   cases hw:isW L i [40] with
   |false =>
    rw[hw,if_neg (by simp)] at h;cases h;exact zP3 (i':=0) (d':=0) (a:=0) (T':=[]) (e:=0) ht (by omega) hkk hw
   |true =>
    rw[hw,if_pos rfl] at h
    by_cases hd12:d=12
    ·rw[if_pos hd12] at h;cases h;exact zPY (i':=0) (d':=0) (a:=0) (T':=[]) (e:=0) ht (by omega) hkk hw hd12
    rw[if_neg hd12] at h;cases h1:PX L f (.lev 0) (i+1) (d+1) T with
    |none=>rw[h1] at h;cases h
    |some r1 =>
     have hk:=xQ _ _ _ _ _ _ h1 (by omega) (by omega) trivial;have hg1:=kF (jM _ _ _ _ _ _ h1);have hc:=ih f (by omega) 0 (i+1) (d+1) T r1 (by omega) h1 (by omega) (by omega) (by omega);rw[h1] at h;cases r1 with
     |pan e i1 d1 T1=>cases h;exact zRn (a:=0) ht (by omega) hkk hw (by omega) hg1 hc
     |ok a i1 d1 T1 =>
      obtain⟨k1,k2,k3,k4,k5⟩:=hk;simp only[Cmd.dt] at k3;subst k3;dsimp only at h;cases hw2:isW L i1 [41] with
      |false =>
       rw[hw2,if_neg (by simp)] at h;cases h;exact zPU (d':=0) (e:=0) ht (by omega) hkk hw (by omega) hg1 hc hw2
      |true =>
       rw[hw2,if_pos rfl,Nat.add_sub_cancel] at h;cases h;exact zQH (d':=0) (e:=0) ht (by omega) hkk hw (by omega) hg1 hc hw2 (by omega)
theorem zKr {C:Cfg} {m k:Nat} {keep:Nat→Option (List Nat)} {st:St} {u:Pn} {Q:Ex→St→Pn→Prop} {id d:Nat} {o:Oper} (hq:Q .normal ⟨(d,.t (recovered u).1)::st.T,st.h⟩ (recovered u).2) (ho:zAv o=true:=by rfl) (hg:o.guard=none:=by rfl) (hd:o.dst=some d:=by rfl)
  (hk:qT k [o]=true:=by kernel_rfl):WS C m k keep (.region id #[o] false) st u Q:=by
 refine zSL (by simp [ho]) hk (T:=(d,.t (recovered u).1)::st.T) (h:=st.h) (u':=(recovered u).2) ?_ hq;have hw:wanted [o] st.T o=some true:=by unfold wanted;rw[hg]
 show qW C (Om C) [o] [o] st.T st.h u=_
 rw[qW,hw];dsimp only;rw[ho];dsimp only;rw[qW,hd]
 rfl
theorem zIm(ids:Nat×Nat×Nat×Nat)(h:Heap)(hc:canon h h.length []=some ([],h)) :
  Om CC (xR+185) (.t .nilptr::[.box ids.1 0,.box ids.2.1 0,.box ids.2.2.1 0,.box ids.2.2.2 0]) h=some (.val (.t .nilptr),h):=by
 obtain⟨u',h',h1,h2,h3⟩:=zF8 (C:=CC) (g:=185) (fn:=Tryz.f185) (u:=none) (args:=[.box ids.1 0,.box ids.2.1 0,.box ids.2.2.1 0,.box ids.2.2.2 0]) (h:=h)
  (R:=fun u h'=>u=none∧h'=h) (by kernel_rfl) (by kernel_rfl) zOH rfl (by kernel_rfl) rfl (by
  (have F_:=c5 zK zO zL zI (c5 zMi zH yA zS (c5 yB yG yF zY (c5 zQ yO yP vL zR1))))
  have u20:und Tryz.prog 20=some (.interface #[]):=by kernel_rfl
  have xa:=zOv 227;have bq:Nat.beq 227 227=true:=rfl;rw[bq] at xa
  show WS CC _ 18 (zE 185) _ _ _ _
  refine zJV rfl (zKr ?_)
  show W CC _ _ _ _ _ _
  simp only[recovered,zT,Nat.zero_add,Nat.reduceAdd]
  (with_reducible repeat' first|apply aA|refine aB ?_|refine aC ?_|refine aD ?_|(first|apply zB|apply zA|apply zC|apply zD)<;>intro hg<;>try with_unfolding_all cases hg;done|refine aE ?_|refine aF ?_|refine aG ?_|refine aH ?_ ?_<;>intro hv<;>try with_unfolding_all cases hv;done)
  exact⟨.inl rfl,by kernel_rfl,⟨.tup [],by kernel_rfl⟩,h,hc,rfl,rfl⟩)
 subst h2 h3;exact h1
theorem zJH (tv v4:AV) (l:Tree) (i d n5 n6 e:Int) (rest:Heap) (k1 k2 k3:Nat) (htv:(tv=.t (.sl true true [])∧rest=[]∧k1=2)∨∃E,tv=.hs 2 0∧rest=[.arr 8 0 false E]∧k1=3) :
  Om CC (xR+185) (.agg [.t (xG e),.t (.bool false)]::[.box 0 0,.box k1 0,.box (k1+1) 0,.box (k1+2) 0]) ([.box [.box 1 0],.box [.t l,.t (.int .i64 i),.t (.int .i64 d),tv]]++rest++[.box [.t (.sl true true [])],.box [.t (.int .i64 n5)],.box [.t (.int .i64 n6)]])
   = some (.val (.t .nilptr),[.box [.box 1 0],.box [.t l,.t (.int .i64 i),.t (.int .i64 d),tv]]++rest++[.box [.t (.sl true true [])],.box [.t (.int .i64 i)],.box [.t (.int .i64 e)]]):=by
 obtain⟨u',h',h1,h2,h3⟩:=zF8 (C:=CC) (g:=185) (fn:=Tryz.f185) (u:=some (xG e,false)) (args:=[.box 0 0,.box k1 0,.box (k1+1) 0,.box (k1+2) 0]) (h:=[.box [.box 1 0],.box [.t l,.t (.int .i64 i),.t (.int .i64 d),tv]]++rest++[.box [.t (.sl true true [])],.box [.t (.int .i64 n5)],.box [.t (.int .i64 n6)]])
  (R:=fun u h'=>u=none∧h'=[.box [.box 1 0],.box [.t l,.t (.int .i64 i),.t (.int .i64 d),tv]]++rest++[.box [.t (.sl true true [])],.box [.t (.int .i64 i)],.box [.t (.int .i64 e)]]) (by kernel_rfl) (by kernel_rfl) zOH rfl (by kernel_rfl) rfl (by
  (have F_:=c5 zK zO zL zI (c5 zMi zH yA zS (c5 yB yG yF zY (c5 zQ yO yP vL zR1))))
  have u20:und Tryz.prog 20=some (.interface #[]):=by kernel_rfl
  have xa:=zOv 227;have bq:Nat.beq 227 227=true:=rfl;rw[bq] at xa;rcases htv with ⟨rfl,rfl,rfl⟩|⟨E,rfl,rfl,rfl⟩
  all_goals show WS CC _ 18 (zE 185) _ _ _ _
  all_goals refine zJV rfl (zKr ?_)
  all_goals show W CC _ _ _ _ _ _
  all_goals simp only[recovered,zT,Nat.zero_add,Nat.reduceAdd,List.append_nil,List.cons_append,List.nil_append,List.length_cons,List.length_nil,xG]
  all_goals (with_reducible repeat' first|apply aA|refine aB ?_|refine aC ?_|refine aD ?_|(first|apply zB|apply zA|apply zC|apply zD)<;>intro hg<;>try with_unfolding_all cases hg;done|refine aE ?_|refine aF ?_|refine aG ?_|refine aH ?_ ?_<;>intro hv<;>try with_unfolding_all cases hv;done)
  all_goals exact⟨.inl rfl,by kernel_rfl,⟨.tup [],by kernel_rfl⟩,_,by kernel_rfl,rfl,rfl⟩)
 subst h2 h3;exact h1
theorem zSO {C:Cfg} {f:FuncId} {fn:Func} {m:Nat} {g:FuncId} {cap ds:List AV} {u u':Pn} {T:Env} {h:Heap} {v:AV} {p:Patch} {r:Option (Out×Heap)} (hl:leave C (Om C) f fn m ds u' T (patch h p)=r) (hb:zF C.P g=true:=by kernel_rfl)
  (hc:wG (Om C) (nth h) [] h.length (xR+g) (pnAV u::([]++cap))=some (.val v,p):=by(simp only[*];exact rfl)) (hv:avPn v=some u':=by exact rfl):leave C (Om C) f fn m (.fn g [] cap::ds) u T h=r:=by
 rw[leave,hb];dsimp only;rw[hc];dsimp only;rw[hv];exact hl
theorem zRU {C:Cfg} {f:FuncId} {fn:Func} {m:Nat} {T:Env} {h h':Heap} {v v':AV} (h1:results C.P fn ⟨T,h⟩=some v:=by(simp only[patch,put1,uZ,results,qY,zAA,Ab.get,Nat.beq,load,loadCells,nth,cut,mkAgg,trees,Option.map_some,List.map_cons,List.map_nil,List.length_cons,List.length_nil,List.take,List.drop,Nat.zero_add,Nat.add_zero,Nat.reduceAdd,Nat.reduceLeDiff,if_true,F_, *];exact rfl))
  (h2:xL C f m v h=some (v',h'):=by(first|exact qS _ _ _ _|exact jF _ _ _ _ _|exact jG _ _ _ _ _ _|(simp only[if_true]<;>exact rfl)|kernel_rfl)):leave C (Om C) f fn m [] none T h=some (.val v',h'):=by
 rw[leave,h1];dsimp only;rw[h2]
def LV(C:Cfg)(f:FuncId)(fn:Func)(m:Nat)(ds:List AV)(u:Pn)(T:Env)(h:Heap)(R:Out→Heap→Prop):Prop:=∃o h',leave C (Om C) f fn m ds u T h=some (o,h')∧R o h'
theorem zDA {C:Cfg} {f:FuncId} {fn:Func} {m:Nat} {T:Env} {h h':Heap} {v v':AV} {R:Out→Heap→Prop} (hr:R (.val v') h') (h1:results C.P fn ⟨T,h⟩=some v:=by(simp only[patch,put1,uZ,results,qY,zAA,Ab.get,Nat.beq,load,loadCells,nth,cut,mkAgg,trees,Option.map_some,List.map_cons,List.map_nil,List.length_cons,List.length_nil,List.take,List.drop,Nat.zero_add,Nat.add_zero,Nat.reduceAdd,Nat.reduceLeDiff,if_true,F_, *];exact rfl))
  (h2:xL C f m v h=some (v',h'):=by(first|exact qS _ _ _ _|exact jF _ _ _ _ _|exact jG _ _ _ _ _ _|(simp only[if_true]<;>exact rfl)|kernel_rfl)):LV C f fn m [] none T h R :=
 ⟨_,_,zRU h1 h2,hr⟩
theorem zFd {C:Cfg} {f:FuncId} {fn:Func} {m:Nat} {g:FuncId} {cap ds:List AV} {u u':Pn} {T:Env} {h:Heap} {v:AV} {p:Patch} {R:Out→Heap→Prop} (hl:LV C f fn m ds u' T (patch h p) R) (hb:zF C.P g=true:=by kernel_rfl)
  (hc:wG (Om C) (nth h) [] h.length (xR+g) (pnAV u::([]++cap))=some (.val v,p):=by(simp only[*,Bool.and_self,List.append_nil,List.cons_append,List.length_cons,List.length_nil,List.map_cons,List.map_nil,List.nil_append,Nat.beq,Nat.reduceAdd,Nat.reduceLT,Nat.zero_add,Option.getD_some,Way.id,Way.ver,back,kC,zHG,zEG,vH,wG,catMap,cond_true,decide_true,depth,fresh,getN,yW,mem,nth,place,plain,uK,pnAV,reach,refs,yK,xH,ren,renL,renO,sub,sub1,zFW,kJ];exact rfl)) (hv:avPn v=some u':=by exact rfl):LV C f fn m (.fn g [] cap::ds) u T h R:=by
 obtain⟨o,h',h1,h2⟩:=hl;exact⟨o,h',zSO h1 hb hc hv,h2⟩
theorem zE3{C:Cfg}{f:FuncId}{fn:Func}{m:Nat}{R:Out→Heap→Prop}{st:St}{x:Tree}{ds:List AV}(hl:LV C f fn m ds (some (x,false)) st.T st.h R)(hd:yZ fn.ntmps st.T=some ds:=by(simp only[yZ,Ab.get,Nat.beq];exact rfl)):zKp C f fn m R (.pan (.t x)) st:=by
 obtain⟨o,h',h1,h2⟩:=hl;exact⟨x,rfl,ds,hd,o,h',h1,h2⟩
theorem zE2{C:Cfg}{f:FuncId}{fn:Func}{m:Nat}{R:Out→Heap→Prop}{st:St}{ds:List AV}(hl:LV C f fn m ds none st.T st.h R)(hd:yZ fn.ntmps st.T=some ds:=by(simp only[yZ,Ab.get,Nat.beq];exact rfl)):zKp C f fn m R .ret st:=by
 obtain⟨o,h',h1,h2⟩:=hl;exact⟨ds,hd,o,h',h1,h2⟩
theorem zCo{C:Cfg}{f:FuncId}{fn:Func}{m:Nat}{R:Out→Heap→Prop}{st:St}{ds:List AV}(hl:LV C f fn m ds none st.T st.h R)(hd:yZ fn.ntmps st.T=some ds:=by(simp only[yZ,Ab.get,Nat.beq];exact rfl)):zKp C f fn m R .normal st:=by
 obtain⟨o,h',h1,h2⟩:=hl;exact⟨ds,hd,o,h',h1,h2⟩
def vT(T:List Node):Tree:=.sl T.isEmpty T.isEmpty (T.map Node.c)
def resX(i:Nat):RX→List Node×Nat×Int
 |.ok _ i' _ T=>if 60<T.length then ([],i,7) else (T,i',0)
 |.pan e i' _ _=>([],i',e)
def zC1(x:List Node×Nat×Int):Out×Heap:=(.val (.tup [.t (vT x.1),.t (.int .i64 (x.2.1:Nat)),.t (.int .i64 x.2.2)]),[])
theorem zEM (nl cl:Bool) (L:List Tok) (hL:L.length<4000000000) (i:Nat) (hi:i≤L.length) :
  Om CC 148 [.t (.sl nl cl (L.map Tok.c)),.t (.int .i64 (i:Int))] []=some (zC1 (zG L i)):=by
 obtain⟨r,hr⟩:=zDb hi;have hk:=xQ _ _ _ _ _ _ hr hi (by omega) trivial;have hc:Om CC 186 [.box 0 0,.t (.int .i64 0)] (rd (.sl nl cl (L.map Tok.c)) i 0 [])=some (r.o (.sl nl cl (L.map Tok.c))):=zYX (nl:=nl) (cl:=cl) hL _ 0 i 0 [] r (by omega) hr hi (by omega) (by simp;omega);have hp:zG L i=resX i r:=by(unfold zG;rw[hr];cases r<;>rfl)
 rw[hp];have d0:decide ((i:Int)<0)=false:=by simp
 have d1:decide ((i:Int) > ((L.map Tok.c).length:Int))=false:=by simp;omega
 clear hr hp;generalize L.map Tok.c=l at *
 suffices hh:∃o h',Om CC 148 [.t (.sl nl cl l),.t (.int .i64 (i:Int))] []=some (o,h')∧(o,h')=zC1 (resX i r) by
  obtain⟨o,h',h1,h2⟩:=hh;rw[h1,h2]
 refine zGd zU6 rfl ?_ (by kernel_rfl)
 (have F_:=c5 zK zO zL zI (c5 zH yA zS yB (c5 yG yF zY zQ (c3 yO yP (c2 yBu kA)))))
 have z0:((0:Nat):Int)=0:=rfl;cases r with
 |pan e i1 d1 T1 =>
  rcases T1 with _|⟨t1,R1⟩
  ·simp only[RX.o,rd,rdT,rdR,z0,xG] at hc;have hdf:=zJH (.t (.sl true true [])) .nov (.sl nl cl l) i1 d1 0 0 e [] 2 0 0 (.inl ⟨rfl,rfl,rfl⟩);simp only[List.append_nil,List.cons_append,List.nil_append,Nat.reduceAdd,xG] at hdf;clear hk z0
   (simp only[zT,List.length_nil,Nat.zero_add];show W CC _ 38 (zE 148) _ _ _)
   (with_reducible repeat' first|apply aA|refine aB ?_|refine aC ?_|refine aD ?_|(first|apply zB|apply zA|apply zC|apply zD)<;>intro hg<;>try with_unfolding_all cases hg;done|refine aE ?_|refine aF ?_|refine aG ?_|refine aH ?_ ?_<;>intro hv<;>try with_unfolding_all cases hv;done)
   refine zE3 ?_;refine zFd ?_;refine zDA ?_
   rfl
  simp only[RX.o,rd,rdT,rdR,z0,xG] at hc;generalize (t1::R1).map Node.c=E1 at *;have hdf:=zJH (.hs 2 0) .nov (.sl nl cl l) i1 d1 0 0 e [.arr 8 0 false E1] 3 0 0 (.inr ⟨E1,rfl,rfl,rfl⟩);simp only[List.cons_append,List.nil_append,Nat.reduceAdd,xG] at hdf;clear hk z0
  (simp only[zT,List.length_nil,Nat.zero_add];show W CC _ 38 (zE 148) _ _ _)
  (with_reducible repeat' first|apply aA|refine aB ?_|refine aC ?_|refine aD ?_|(first|apply zB|apply zA|apply zC|apply zD)<;>intro hg<;>try with_unfolding_all cases hg;done|refine aE ?_|refine aF ?_|refine aG ?_|refine aH ?_ ?_<;>intro hv<;>try with_unfolding_all cases hv;done)
  refine zE3 ?_;refine zFd ?_;refine zDA ?_
  rfl
 |ok a i1 d1 T1 =>
  obtain⟨k1,k2,k3,k4,k5⟩:=hk;rcases T1 with _|⟨t1,R1⟩
  ·exact absurd k5 (by simp)
  simp only[RX.o,rd,rdT,rdR,z0] at hc;clear z0;have e1:resX i (.ok a i1 d1 (t1::R1))=if 60<(t1::R1).length then ([],i,7) else (t1::R1,i1,0):=rfl
  rw[e1];clear e1 k1 k2 k3 k4 k5;have hE:vT (t1::R1)=.sl false false ((t1::R1).map Node.c):=rfl;have hl:(t1::R1).length=((t1::R1).map Node.c).length:=by rw[List.length_map]
  by_cases h60:60<(t1::R1).length
  ·rw[if_pos h60];rw[hl] at h60;clear hE hl;generalize (t1::R1).map Node.c=E1 at *;have h60':decide ((E1.length:Int) > 60)=true:=by(rw[decide_eq_true_eq];omega)
   have hdf:=zIm (0,3,4,5) [.box [.box 1 0],.box [.t (.sl nl cl l),.t (.int .i64 (i1:Int)),.t (.int .i64 (d1:Int)),.hs 2 0],.arr 8 0 false E1,.box [.t (.sl true true [])],.box [.t (.int .i64 (i:Int))],.box [.t (.int .i64 7)]] (by kernel_rfl);dsimp only at hdf
   (simp only[zT,List.length_nil,Nat.zero_add];show W CC _ 38 (zE 148) _ _ _)
   (with_reducible repeat' first|apply aA|refine aB ?_|refine aC ?_|refine aD ?_|(first|apply zB|apply zA|apply zC|apply zD)<;>intro hg<;>try with_unfolding_all cases hg;done|refine aE ?_|refine aF ?_|refine aG ?_|refine aH ?_ ?_<;>intro hv<;>try with_unfolding_all cases hv;done)
   first|refine zE2 ?_|refine zCo ?_
   refine zFd ?_;refine zDA ?_
   rfl
  rw[if_neg h60];rw[hl] at h60;have hE2:zC1 (t1::R1,i1,0)=(.val (.tup [.t (.sl false false ((t1::R1).map Node.c)),.t (.int .i64 (i1:Int)),.t (.int .i64 0)]),[]):=rfl;rw[hE2];clear hE hl hE2;generalize (t1::R1).map Node.c=E1 at *;have h60':decide ((E1.length:Int) > 60)=false:=by(rw[decide_eq_false_iff_not];omega)
  have hdf:=zIm (0,3,4,5) [.box [.box 1 0],.box [.t (.sl nl cl l),.t (.int .i64 (i1:Int)),.t (.int .i64 (d1:Int)),.hs 2 0],.arr 8 0 false E1,.box [.hs 2 0],.box [.t (.int .i64 (i1:Int))],.box [.t (.int .i64 0)]] (by kernel_rfl);dsimp only at hdf
  (simp only[zT,List.length_nil,Nat.zero_add];show W CC _ 38 (zE 148) _ _ _)
  (with_reducible repeat' first|apply aA|refine aB ?_|refine aC ?_|refine aD ?_|(first|apply zB|apply zA|apply zC|apply zD)<;>intro hg<;>try with_unfolding_all cases hg;done|refine aE ?_|refine aF ?_|refine aG ?_|refine aH ?_ ?_<;>intro hv<;>try with_unfolding_all cases hv;done)
  first|refine zE2 ?_|refine zCo ?_
  refine zFd ?_;refine zDA ?_
  rfl
def strC(w:List Nat):List Tree:=[.str w]
def idxI(s:List Nat):List (List Nat)→Nat→Int
 |[],_=>-1
 |w::r,k=>if s=w then (k:Int) else idxI s r (k+1)
def hasW(s:List Nat)(ws:List (List Nat)):Bool:=ws.any fun w=>decide (s=w)
theorem zMV(s:List Nat):∀(ws:List (List Nat)) (k:Nat),decide (idxI s ws k ≥ 0)=hasW s ws
 |[],k=>rfl
 |w::r,k=>by
  unfold idxI hasW;rw[List.any_cons]
  by_cases h:s=w
  ·rw[if_pos h];simp [h]
  rw[if_neg h,zMV s r (k+1)];simp [h,hasW]
theorem zRA (x y:Bool) (ws:List (List Nat)) (s:List Nat) (hl:ws.length<9223372036854775807) :
  Om CC 53 [.t (.sl x y (ws.map strC)),.t (.str s)] []=some (.val (.t (.int .i64 (idxI s ws 0))),[]):=by
 have hol:ws.length=(ws.map strC).length:=by rw[List.length_map]
 have hE:∀j,(ws.map strC)[j]?=ws[j]?.map strC:=fun j=>List.getElem?_map
 generalize ws.map strC=E at *;generalize hr:idxI s ws 0=r;refine zV yC8 rfl ?_
 (have F_:=c3 zO zI (c2 kH yDA);show W CC 0 19 (zE 53) _ ⟨[(0,_),(1,_)],[]⟩ _)
 (with_reducible repeat' first|apply aA|refine aB ?_|refine aC ?_|refine aD ?_|(first|apply zB|apply zA|apply zC|apply zD)<;>intro hg<;>try with_unfolding_all cases hg;done|refine aE ?_|refine aF ?_|refine aG ?_|refine aH ?_ ?_<;>intro hv<;>try with_unfolding_all cases hv;done)
 refine yS (α:=Nat) (fun j=>⟨[(0,.t (.sl x y E)),(1,.t (.str s)),(7,.t (.int .i64 (E.length:Int))),(8,.t (.int .i64 (j:Int)))],[]⟩) (fun j=>ws.length - j)
  (fun j=>j≤ws.length∧r=idxI s (ws.drop j) j) 0 (by exact aTd) ⟨Nat.zero_le _,hr.symm⟩ ?_
 rintro j ⟨hj,hI⟩
 by_cases hj':j<ws.length
 ·have hd:decide ((j:Int)<(E.length:Int))=true:=by rw[← hol];simpa using hj'
  have hEj:E[j]?=some [.str ws[j]]:=by rw[hE,List.getElem?_eq_getElem hj'];rfl
  have hX:idxI s (ws.drop j) j=if s=ws[j] then (j:Int) else idxI s (ws.drop (j+1)) (j+1):=by rw[List.drop_eq_getElem_cons hj',idxI]
  have hw:IntKind.i64.wrap ((j:Int)+1)=((j+1:Nat):Int):=by rw[wrap64]<;>omega
  generalize ws[j]=w at *;clear hE hr;rw[hol] at hj'
  by_cases hb:s=w
  ·have hbb:beqL s w=true:=by rw[qX];exact decide_eq_true hb
   rw[if_pos hb] at hX;clear hb;rw[hX] at hI;subst hI
   (with_reducible repeat' first|apply aA|refine aB ?_|refine aC ?_|refine aD ?_|(first|apply zB|apply zA|apply zC|apply zD)<;>intro hg<;>try with_unfolding_all cases hg;done|refine aE ?_|refine aF ?_|refine aG ?_|refine aH ?_ ?_<;>intro hv<;>try with_unfolding_all cases hv;done)
   all_goals refine aK ?_ ?_
   all_goals first|rfl
  have hbb:beqL s w=false:=by rw[qX];exact decide_eq_false hb
  rw[if_neg hb] at hX;clear hb;have hI2:=hI.trans hX;clear hX hI
  (with_reducible repeat' first|apply aA|refine aB ?_|refine aC ?_|refine aD ?_|(first|apply zB|apply zA|apply zC|apply zD)<;>intro hg<;>try with_unfolding_all cases hg;done|refine aE ?_|refine aF ?_|refine aG ?_|refine aH ?_ ?_<;>intro hv<;>try with_unfolding_all cases hv;done)
  exact zM (j+1) (by omega) ⟨by omega,hI2⟩ (by exact aTd)
 obtain rfl:j=ws.length:=by omega
 have hd:decide ((ws.length:Int)<(E.length:Int))=false:=by rw[← hol];simp
 have hd2:decide ((E.length:Int)<(E.length:Int))=false:=by simp
 rw[List.drop_length,idxI] at hI;subst hI;clear hE hr
 (with_reducible repeat' first|apply aA|refine aB ?_|refine aC ?_|refine aD ?_|(first|apply zB|apply zA|apply zC|apply zD)<;>intro hg<;>try with_unfolding_all cases hg;done|refine aE ?_|refine aF ?_|refine aG ?_|refine aH ?_ ?_<;>intro hv<;>try with_unfolding_all cases hv;done)
 all_goals refine aK ?_ ?_
 all_goals first|rfl
theorem zNo (x y:Bool) (ws:List (List Nat)) (s:List Nat) (hl:ws.length<9223372036854775807) :
  Om CC 31 [.t (.sl x y (ws.map strC)),.t (.str s)] []=some (.val (.t (.bool (hasW s ws))),[]):=by
 have h1:=zRA x y ws s hl;have h2:=zMV s ws 0;generalize ws.map strC=E at *;generalize idxI s ws 0=r at *;generalize hasW s ws=b at *;refine zV yCV rfl ?_
 (have F_:=c5 zO zI kH yD5 yEm;show W CC 0 9 (zE 31) _ ⟨[(0,_),(1,_)],[]⟩ _)
 (with_reducible repeat' first|apply aA|refine aB ?_|refine aC ?_|refine aD ?_|(first|apply zB|apply zA|apply zC|apply zD)<;>intro hg<;>try with_unfolding_all cases hg;done|refine aE ?_|refine aF ?_|refine aG ?_|refine aH ?_ ?_<;>intro hv<;>try with_unfolding_all cases hv;done)
 all_goals refine aK ?_ ?_
 all_goals first|rfl|(clear F_;simp_all;done)
def ruT:List Test→AV
 |[]=>.t (.sl true true [])
 |_::_=>.hs 1 0
def ruR:List Test→Heap
 |[]=>[]
 |t::r=>[.arr 8 0 false ((t::r).map Test.c)]
def ru(l:Tree)(i n:Nat)(T:List Test):Heap:=.box [.t l,.t (.int .i64 (i:Int)),.t (.int .i64 (n:Int)),ruT T]::ruR T
def uisX(L:List Tok)(j:Nat)(ws:List (List Nat)):Bool :=
 match L[j]? with
 |some t=>(t.k==1||t.k==7)&&hasW t.s ws
 |none=>false
theorem zTK(L:List Tok)(j:Nat)(w:List Nat):uisX L j [w]=isW L j w:=by
 unfold uisX isW;cases L[j]? with
 |none=>rfl
 |some t=>simp only[hasW,List.any_cons,List.any_nil,Bool.or_false,zBp]
theorem zT3(L:List Tok)(j:Nat)(v w:List Nat):uisX L j [v,w]=(isW L j v||isW L j w):=by
 unfold uisX isW;cases L[j]? with
 |none=>rfl
 |some t=>simp only[hasW,List.any_cons,List.any_nil,Bool.or_false,zBp,Bool.and_or_distrib_left]
theorem zSy(nl cl x y:Bool)(L:List Tok)(i n on:Nat)(T:List Test)(ws:List (List Nat))(hl:ws.length<9223372036854775807)(hi:i+on<9223372036854775807) :
  Om CC 79 [.box 0 0,.t (.int .i64 (on:Int)),.t (.sl x y (ws.map strC))] (ru (.sl nl cl (L.map Tok.c)) i n T)=some (.val (.t (.bool (uisX L (i+on) ws))),ru (.sl nl cl (L.map Tok.c)) i n T):=by
 have hw:IntKind.i64.wrap ((i:Int)+(on:Int))=((i+on:Nat):Int):=by rw[wrap64]<;>omega
 generalize hj:i+on=j at *
 by_cases hi:j<L.length
 ·obtain⟨t,ht⟩:∃t,L[j]?=some t:=⟨_,List.getElem?_eq_getElem hi⟩;have hT:=uI ht;have hd:decide ((j:Int)<((L.map Tok.c).length:Int))=true:=by simpa using hi
  have hW:uisX L j ws=((t.k==1||t.k==7)&&hasW t.s ws):=by unfold uisX;rw[ht]
  have hs:=zNo x y ws t.s hl;rw[hW];clear hj ht;generalize L.map Tok.c=l at *;generalize ws.map strC=E at *;generalize hasW t.s ws=b0 at *;generalize hb1:(t.k==1)=b1 at *;generalize hb2:(t.k==7)=b2 at *;obtain⟨tk,ts,⟨vk,vn,vs⟩,tl,tc⟩:=t;dsimp only at *
  (have F_:=c5 zK zO zR zL (c5 zI zH yA zS (c5 xX kH yG yF (c5 zY xP uE zQ (c3 vG zUQ zUC)))))
  rcases T with _|⟨t0,T0⟩
  all_goals simp only[ru,ruT,ruR]
  all_goals try generalize (t0::T0).map Test.c=E0 at *
  all_goals refine zV zRp rfl ?_
  all_goals (simp only[zT,List.length_cons,List.length_nil,Nat.zero_add,Nat.reduceAdd];show W CC _ 55 (zE 79) _ _ _)
  all_goals (with_reducible repeat' first|apply aA|refine aB ?_|refine aC ?_|refine aD ?_|(first|apply zB|apply zA|apply zC|apply zD)<;>intro hg<;>try with_unfolding_all cases hg;done|refine aE ?_|refine aF ?_|refine aG ?_|refine aH ?_ ?_<;>intro hv<;>try with_unfolding_all cases hv;done)
  all_goals refine aK ?_ ?_
  all_goals first|rfl|(clear F_;simp_all;done)
 have hd:decide ((j:Int)<((L.map Tok.c).length:Int))=false:=by simp;omega
 have hW:uisX L j ws=false:=by unfold uisX;rw[List.getElem?_eq_none (by omega)]
 rw[hW];clear hj;generalize L.map Tok.c=l at *;generalize ws.map strC=E at *
 (have F_:=c5 zK zO zR zL (c5 zI zH yA zS (c5 xX kH yG yF (c5 zY xP uE zQ (c3 vG zUQ zUC)))))
 rcases T with _|⟨t0,T0⟩
 all_goals simp only[ru,ruT,ruR]
 all_goals try generalize (t0::T0).map Test.c=E0 at *
 all_goals refine zV zRp rfl ?_
 all_goals (simp only[zT,List.length_cons,List.length_nil,Nat.zero_add,Nat.reduceAdd];show W CC _ 55 (zE 79) _ _ _)
 all_goals (with_reducible repeat' first|apply aA|refine aB ?_|refine aC ?_|refine aD ?_|(first|apply zB|apply zA|apply zC|apply zD)<;>intro hg<;>try with_unfolding_all cases hg;done|refine aE ?_|refine aF ?_|refine aG ?_|refine aH ?_ ?_<;>intro hv<;>try with_unfolding_all cases hv;done)
 all_goals refine aK ?_ ?_
 all_goals first|rfl|(clear F_;simp_all;done)
theorem uis1 (nl cl:Bool) (L:List Tok) (i n:Nat) (T:List Test) (on:Nat) (w:List Nat) (hi:i+on<9223372036854775807) :
  Om CC 79 [.box 0 0,.t (.int .i64 (on:Int)),.t (.sl false false [[.str w]])] (ru (.sl nl cl (L.map Tok.c)) i n T)=some (.val (.t (.bool (isW L (i+on) w))),ru (.sl nl cl (L.map Tok.c)) i n T):=by
 rw[← zTK];exact zSy nl cl false false L i n on T [w] (by simp) hi
theorem uis2 (nl cl:Bool) (L:List Tok) (i n:Nat) (T:List Test) (v w:List Nat) (hi:i<9223372036854775807) :
  Om CC 79 [.box 0 0,.t (.int .i64 0),.t (.sl false false [[.str v],[.str w]])] (ru (.sl nl cl (L.map Tok.c)) i n T)=some (.val (.t (.bool (isW L i v||isW L i w))),ru (.sl nl cl (L.map Tok.c)) i n T):=by
 rw[← zT3];exact zSy nl cl false false L i n 0 T [v,w] (by simp) hi
theorem uis0 (nl cl:Bool) (L:List Tok) (i n:Nat) (T:List Test) (w:List Nat) (hi:i<9223372036854775807) :
  Om CC 79 [.box 0 0,.t (.int .i64 0),.t (.sl false false [[.str w]])] (ru (.sl nl cl (L.map Tok.c)) i n T)=some (.val (.t (.bool (isW L i w))),ru (.sl nl cl (L.map Tok.c)) i n T):=uis1 nl cl L i n T 0 w hi
theorem zMA (nl cl:Bool) (L:List Tok) (i n:Nat) (T:List Test) (hi:i<9223372036854775800) :
  Om CC 80 [.box 0 0,.t (.int .i64 1)] (ru (.sl nl cl (L.map Tok.c)) i n T)=some (.val (.t (.bool (jT L (i+1)))),ru (.sl nl cl (L.map Tok.c)) i n T):=by
 have h1:=uis1 nl cl L i n T 2 [58] (by omega);have hw:IntKind.i64.wrap ((i:Int)+1)=((i+1:Nat):Int):=by rw[wrap64]<;>omega
 have hw2:IntKind.i64.wrap (1+1)=2:=rfl;have hw3:((2:Nat):Int)=2:=rfl;rw[hw3] at h1;clear hw3
 by_cases hi':i+1<L.length
 ·obtain⟨t,ht⟩:∃t,L[i+1]?=some t:=⟨_,List.getElem?_eq_getElem hi'⟩;have hT:=uI ht;have hd:decide (((i+1:Nat):Int)<((L.map Tok.c).length:Int))=true:=by(rw[decide_eq_true_eq,List.length_map];omega)
  have hX:jT L (i+1)=(t.k==1&&isW L (i+2) [58]):=by unfold jT;rw[ht]
  rw[hX];clear hX ht hi';generalize L.map Tok.c=l at *;generalize isW L (i+2) [58]=b0 at *;generalize hb1:(t.k==1)=b1 at *;obtain⟨tk,ts,⟨vk,vn,vs⟩,tl,tc⟩:=t;dsimp only at *
  (have F_:=c5 zK zO zR zL (c5 zI zH yA zS (c5 xX kH yG yF (c5 zY xP uE zQ (c3 vG zUD zAe)))))
  rcases T with _|⟨t0,T0⟩
  all_goals simp only[ru,ruT,ruR] at h1 ⊢
  all_goals try generalize (t0::T0).map Test.c=E0 at *
  all_goals refine zV zQD rfl ?_
  all_goals (simp only[zT,List.length_cons,List.length_nil,Nat.zero_add,Nat.reduceAdd];show W CC _ 37 (zE 80) _ _ _)
  all_goals (with_reducible repeat' first|apply aA|refine aB ?_|refine aC ?_|refine aD ?_|(first|apply zB|apply zA|apply zC|apply zD)<;>intro hg<;>try with_unfolding_all cases hg;done|refine aE ?_|refine aF ?_|refine aG ?_|refine aH ?_ ?_<;>intro hv<;>try with_unfolding_all cases hv;done)
  all_goals refine aK ?_ ?_
  all_goals first|rfl|(clear F_;simp_all;done)
 have hd:decide (((i+1:Nat):Int)<((L.map Tok.c).length:Int))=false:=by(rw[decide_eq_false_iff_not,List.length_map];omega)
 have hX:jT L (i+1)=false:=by unfold jT;rw[List.getElem?_eq_none (by omega)]
 rw[hX];clear h1 hX hi';generalize L.map Tok.c=l at *
 (have F_:=c5 zK zO zR zL (c5 zI zH yA zS (c5 xX kH yG yF (c5 zY xP uE zQ (c3 vG zUD zAe)))))
 rcases T with _|⟨t0,T0⟩
 all_goals simp only[ru,ruT,ruR]
 all_goals try generalize (t0::T0).map Test.c=E0 at *
 all_goals refine zV zQD rfl ?_
 all_goals (simp only[zT,List.length_cons,List.length_nil,Nat.zero_add,Nat.reduceAdd];show W CC _ 37 (zE 80) _ _ _)
 all_goals (with_reducible repeat' first|apply aA|refine aB ?_|refine aC ?_|refine aD ?_|(first|apply zB|apply zA|apply zC|apply zD)<;>intro hg<;>try with_unfolding_all cases hg;done|refine aE ?_|refine aF ?_|refine aG ?_|refine aH ?_ ?_<;>intro hv<;>try with_unfolding_all cases hv;done)
 all_goals refine aK ?_ ?_
 all_goals first|rfl|(clear F_;simp_all;done)
def zOb(P:Program)(t:TypeId):Bool:=match und P t with
 |some (.struct _)=>true
 |_=>false
theorem zPy{P:Program}{t:TypeId}(h:zOb P t=true):∃fs,und P t=some (.struct fs):=by
 unfold zOb at h;split at h
 ·rename_i fs h';exact⟨fs,h'⟩
 cases h
theorem zKb:∃fs,und Tryz.prog 133=some (.struct fs):=zPy (by kernel_rfl)
def ustop(i:Nat)(e:Int):Tree:=.ifc 133 (.agg [.int .i64 (i:Int),.int .i64 e])
theorem zIv(l:Tree)(i n:Nat)(T:List Test)(e:Int):Om CC 110 [.box 0 0,.t (.int .i64 e)] (ru l i n T)=some (.pan (.t (ustop i e)),ru l i n T):=by
 unfold ustop;obtain⟨fs,h133⟩:=zKb
 (have F_:=c5 zK zO zR zL (c5 zI zH yA zS (c5 yB xX yG yF (c5 zY xP uE zQ (c3 vG zMS zY4)))))
 rcases T with _|⟨t0,T0⟩
 all_goals simp only[ru,ruT,ruR] at ⊢
 all_goals try generalize (t0::T0).map Test.c=E0 at *
 all_goals refine zBW zXB rfl ?_
 all_goals (simp only[zT,List.length_cons,List.length_nil,Nat.zero_add,Nat.reduceAdd];show W CC _ 11 (zE 110) _ _ _)
 all_goals (with_reducible repeat' first|apply aA|refine aB ?_|refine aC ?_|refine aD ?_|(first|apply zB|apply zA|apply zC|apply zD)<;>intro hg<;>try with_unfolding_all cases hg;done|refine aE ?_|refine aF ?_|refine aG ?_|refine aH ?_ ?_<;>intro hv<;>try with_unfolding_all cases hv;done)
 all_goals ((refine aLp2 ?_ ?_))
 all_goals first|rfl|(clear F_;simp_all;done)
theorem zNp (nl cl:Bool) (L:List Tok) (i n:Nat) (T:List Test) (E9:List (List Tree)) (h:Om CC 79 [.box 0 0,.t (.int .i64 0),.t (.sl false false E9)] (ru (.sl nl cl (L.map Tok.c)) i n T)=some (.val (.t (.bool false)),ru (.sl nl cl (L.map Tok.c)) i n T)) :
  Om CC 111 [.box 0 0,.t (.sl false false E9)] (ru (.sl nl cl (L.map Tok.c)) i n T)=some (.pan (.t (ustop i 4)),ru (.sl nl cl (L.map Tok.c)) i n T):=by
 have h1:=zIv (.sl nl cl (L.map Tok.c)) i n T 4;unfold ustop at *;generalize Tree.sl nl cl (L.map Tok.c)=l at *
 (have F_:=c5 zK zO zR zL (c5 zI zH yA zS (c5 yB xX kH yG (c5 yF zY xP uE (c5 zQ vG zP7 zAe zA6)))))
 rcases T with _|⟨t0,T0⟩
 all_goals simp only[ru,ruT,ruR] at h h1 ⊢
 all_goals try generalize (t0::T0).map Test.c=E0 at *
 all_goals refine zBW zOJ rfl ?_
 all_goals (simp only[zT,List.length_cons,List.length_nil,Nat.zero_add,Nat.reduceAdd];show W CC _ 30 (zE 111) _ _ _)
 all_goals (with_reducible repeat' first|apply aA|refine aB ?_|refine aC ?_|refine aD ?_|(first|apply zB|apply zA|apply zC|apply zD)<;>intro hg<;>try with_unfolding_all cases hg;done|refine aE ?_|refine aF ?_|refine aG ?_|refine aH ?_ ?_<;>intro hv<;>try with_unfolding_all cases hv;done)
 all_goals ((refine aLp2 ?_ ?_))
 all_goals first|rfl|(clear F_;simp_all;done)
theorem zGs (nl cl:Bool) (L:List Tok) (i n:Nat) (T:List Test) (E9:List (List Tree)) (t:Tok) (ht:L[i]?=some t) (hi:i<9223372036854775800) (h:Om CC 79 [.box 0 0,.t (.int .i64 0),.t (.sl false false E9)] (ru (.sl nl cl (L.map Tok.c)) i n T)=some (.val (.t (.bool true)),ru (.sl nl cl (L.map Tok.c)) i n T)) :
  Om CC 111 [.box 0 0,.t (.sl false false E9)] (ru (.sl nl cl (L.map Tok.c)) i n T)=some (.val (.t (.str t.s)),ru (.sl nl cl (L.map Tok.c)) (i+1) n T):=by
 have hw:IntKind.i64.wrap ((i:Int)+1)=((i+1:Nat):Int):=by rw[wrap64]<;>omega
 have hw2:IntKind.i64.wrap (((i+1:Nat):Int) - 1)=(i:Int):=by rw[wrap64]<;>omega
 have hT:=uI ht;clear ht;generalize L.map Tok.c=l at *;obtain⟨tk,ts,⟨vk,vn,vs⟩,tl,tc⟩:=t;dsimp only at *
 (have F_:=c5 zK zO zR zL (c5 zI zH yA zS (c5 yB xX kH yG (c5 yF zY xP uE (c3 zQ vG (c2 zP7 zAe))))))
 rcases T with _|⟨t0,T0⟩
 all_goals simp only[ru,ruT,ruR] at h ⊢
 all_goals try generalize (t0::T0).map Test.c=E0 at *
 all_goals refine zV zOJ rfl ?_
 all_goals (simp only[zT,List.length_cons,List.length_nil,Nat.zero_add,Nat.reduceAdd];show W CC _ 30 (zE 111) _ _ _)
 all_goals (with_reducible repeat' first|apply aA|refine aB ?_|refine aC ?_|refine aD ?_|(first|apply zB|apply zA|apply zC|apply zD)<;>intro hg<;>try with_unfolding_all cases hg;done|refine aE ?_|refine aF ?_|refine aG ?_|refine aH ?_ ?_<;>intro hv<;>try with_unfolding_all cases hv;done)
 all_goals refine aK ?_ ?_
 all_goals first|rfl|(clear F_;simp_all;done)
theorem zAw (nl cl:Bool) (L:List Tok) (i n:Nat) (T:List Test) :
  Om CC 77 [.box 0 0] (ru (.sl nl cl (L.map Tok.c)) i n T)=some (.val (.t (.agg [.int .i64 (plW L i).1,.int .i64 (plW L i).2])),ru (.sl nl cl (L.map Tok.c)) i n T):=by
 by_cases hi:i<L.length
 ·obtain⟨t,ht⟩:∃t,L[i]?=some t:=⟨_,List.getElem?_eq_getElem hi⟩;have hT:=uI ht;have hd:decide ((i:Int)<((L.map Tok.c).length:Int))=true:=by simpa using hi
  have hP:plW L i=(t.line,t.col):=by unfold plW;rw[ht]
  rw[hP];clear hP ht;generalize L.map Tok.c=l at *;obtain⟨tk,ts,⟨vk,vn,vs⟩,tl,tc⟩:=t;dsimp only at *
  (have F_:=c5 zK zO zR zL (c5 zI zH yA zS (c5 xX yG yF zY (c5 xP uE zQ vG zUN))))
  rcases T with _|⟨t0,T0⟩
  all_goals simp only[ru,ruT,ruR]
  all_goals try generalize (t0::T0).map Test.c=E0 at *
  all_goals refine zV zSb rfl ?_
  all_goals (simp only[zT,List.length_cons,List.length_nil,Nat.zero_add,Nat.reduceAdd];show W CC _ 25 (zE 77) _ _ _)
  all_goals (with_reducible repeat' first|apply aA|refine aB ?_|refine aC ?_|refine aD ?_|(first|apply zB|apply zA|apply zC|apply zD)<;>intro hg<;>try with_unfolding_all cases hg;done|refine aE ?_|refine aF ?_|refine aG ?_|refine aH ?_ ?_<;>intro hv<;>try with_unfolding_all cases hv;done)
  all_goals refine aK ?_ ?_
  all_goals first|rfl|(clear F_;simp_all;done)
 have hd:decide ((i:Int)<((L.map Tok.c).length:Int))=false:=by simp;omega
 have hP:plW L i=(0,0):=by unfold plW;rw[List.getElem?_eq_none (by omega)]
 rw[hP];clear hP;generalize L.map Tok.c=l at *
 (have F_:=c5 zK zO zR zL (c5 zI zH yA zS (c5 xX yG yF zY (c5 xP uE zQ vG zUN))))
 rcases T with _|⟨t0,T0⟩
 all_goals simp only[ru,ruT,ruR]
 all_goals try generalize (t0::T0).map Test.c=E0 at *
 all_goals refine zV zSb rfl ?_
 all_goals (simp only[zT,List.length_cons,List.length_nil,Nat.zero_add,Nat.reduceAdd];show W CC _ 25 (zE 77) _ _ _)
 all_goals (with_reducible repeat' first|apply aA|refine aB ?_|refine aC ?_|refine aD ?_|(first|apply zB|apply zA|apply zC|apply zD)<;>intro hg<;>try with_unfolding_all cases hg;done|refine aE ?_|refine aF ?_|refine aG ?_|refine aH ?_ ?_<;>intro hv<;>try with_unfolding_all cases hv;done)
 all_goals refine aK ?_ ?_
 all_goals first|rfl|(clear F_;simp_all;done)
theorem uA (l:Tree) (i n:Nat) (T:List Test) (x:Test) (hT:T.length<4294967295) :
  Om CC 81 [.box 0 0,.t (.agg x.c)] (ru l i n T)=some (.val (.t (.int .i64 (T.length:Nat))),ru l i n (T++[x])):=by
 obtain⟨op,⟨anl,acl,al⟩,⟨bnl,bcl,bl⟩,low,high,⟨knl,kcl,kl⟩,line,col⟩:=x;have hx:Test.c ⟨op,⟨anl,acl,al⟩,⟨bnl,bcl,bl⟩,low,high,⟨knl,kcl,kl⟩,line,col⟩=[.int .u8 op,.sl anl acl (al.map Node.c),.sl bnl bcl (bl.map Node.c),.bool low,.bool high,.sl knl kcl (kl.map intC),.int .i64 line,.int .i64 col]:=rfl;have hl:T.length=(T.map Test.c).length:=by rw[List.length_map]
 have hlen:lens 8 (T.map Test.c)=true:=by unfold lens;rw[List.all_map];exact List.all_eq_true.2 fun x _=>rfl
 rw[hl] at hT ⊢;have hsm:decide ((T.map Test.c).length+1<4294967296)=true:=by(rw[decide_eq_true_eq];omega)
 have hw:IntKind.i64.wrap ((((T.map Test.c).length+1:Nat):Int) - 1)=((T.map Test.c).length:Int):=by rw[wrap64]<;>omega
 have hw1:IntKind.i64.wrap (((1:Nat):Int) - 1)=0:=rfl;rw[hx];clear hl;generalize hN:(⟨op,⟨anl,acl,al⟩,⟨bnl,bcl,bl⟩,low,high,⟨knl,kcl,kl⟩,line,col⟩:Test)=N at *;clear hN
 (have F_:=c5 zK zO zR zL (c5 zI zH yA zS (c5 xX yG yF zY (c5 xP uE zQ vG yDD))))
 rcases T with _|⟨t0,T0⟩
 ·simp only[ru,ruT,ruR,List.nil_append];have e1:[N].map Test.c=[N.c]:=rfl;rw[e1,hx];generalize al.map Node.c=A at *;generalize bl.map Node.c=B at *;generalize kl.map intC=K at *;clear hx hw hsm hlen hT e1;refine zV zSJ rfl ?_
  (simp only[zT,List.length_cons,List.length_nil,Nat.zero_add];show W CC _ 21 (zE 81) _ _ _)
  (with_reducible repeat' first|apply aA|refine aB ?_|refine aC ?_|refine aD ?_|(first|apply zB|apply zA|apply zC|apply zD)<;>intro hg<;>try with_unfolding_all cases hg;done|refine aE ?_|refine aF ?_|refine aG ?_|refine aH ?_ ?_<;>intro hv<;>try with_unfolding_all cases hv;done)
  all_goals refine aK ?_ ?_
  all_goals first|rfl|(clear F_;simp_all;done)
 simp only[ru,ruT,ruR,List.cons_append];have e1:(t0::(T0++[N])).map Test.c=(t0::T0).map Test.c++[N.c]:=by
  rw[← List.cons_append,List.map_append];rfl
 rw[e1,hx];generalize (t0::T0).map Test.c=E at *;generalize al.map Node.c=A at *;generalize bl.map Node.c=B at *;generalize kl.map intC=K at *;clear hx hw1 e1;refine zV zSJ rfl ?_
 (simp only[zT,List.length_cons,List.length_nil,Nat.zero_add,Nat.reduceAdd];show W CC _ 21 (zE 81) _ _ _)
 (with_reducible repeat' first|apply aA|refine aB ?_|refine aC ?_|refine aD ?_|(first|apply zB|apply zA|apply zC|apply zD)<;>intro hg<;>try with_unfolding_all cases hg;done|refine aE ?_|refine aF ?_|refine aG ?_|refine aH ?_ ?_<;>intro hv<;>try with_unfolding_all cases hv;done)
 all_goals refine aK ?_ ?_
 all_goals first|rfl|(clear F_;simp_all;done)
theorem zKf (nl cl:Bool) (L:List Tok) (hL:L.length<4000000000) (i n:Nat) (T:List Test) (hi:i≤L.length) :
  Om CC 109 [.box 0 0] (ru (.sl nl cl (L.map Tok.c)) i n T)=some (.val (.t (.bool ((zG L i).2.2==0))),ru (.sl nl cl (L.map Tok.c)) i n T):=by
 have h1:=zEM nl cl L hL i hi;simp only[zC1,vT] at h1;generalize zG L i=r at *;obtain⟨N,j,e⟩:=r;dsimp only at *;generalize N.map Node.c=A at *;generalize Tree.sl nl cl (L.map Tok.c)=l at *
 (have F_:=c5 zK zO zR zL (c5 zI zH yA zS (c5 yB xX yG yF (c5 zY xP uE zQ (c3 vG zX2 zHf)))))
 rcases T with _|⟨t0,T0⟩
 all_goals simp only[ru,ruT,ruR] at ⊢
 all_goals try generalize (t0::T0).map Test.c=E0 at *
 all_goals refine zV zVe rfl ?_
 all_goals (simp only[zT,List.length_cons,List.length_nil,Nat.zero_add,Nat.reduceAdd];show W CC _ 21 (zE 109) _ _ _)
 all_goals (with_reducible repeat' first|apply aA|refine aB ?_|refine aC ?_|refine aD ?_|(first|apply zB|apply zA|apply zC|apply zD)<;>intro hg<;>try with_unfolding_all cases hg;done|refine aE ?_|refine aF ?_|refine aG ?_|refine aH ?_ ?_<;>intro hv<;>try with_unfolding_all cases hv;done)
 all_goals refine aK ?_ ?_
 all_goals first|rfl|(clear F_;simp_all;done)
theorem qU (nl cl:Bool) (L:List Tok) (hL:L.length<4000000000) (i n:Nat) (T:List Test) (hi:i≤L.length) (he:(zG L i).2.2=0) :
  Om CC 113 [.box 0 0] (ru (.sl nl cl (L.map Tok.c)) i n T)=some (.val (.t (vT (zG L i).1)),ru (.sl nl cl (L.map Tok.c)) (zG L i).2.1 n T):=by
 have h1:=zEM nl cl L hL i hi;simp only[zC1,vT] at h1 ⊢;generalize zG L i=r at *;obtain⟨N,j,e⟩:=r;dsimp only at *;subst he;generalize N.map Node.c=A at *;generalize Tree.sl nl cl (L.map Tok.c)=l at *
 (have F_:=c5 zK zO zR zL (c5 zI zH yA zS (c5 yB xX yG yF (c5 zY xP uE zQ (c3 vG zSK zHf)))))
 rcases T with _|⟨t0,T0⟩
 all_goals simp only[ru,ruT,ruR] at ⊢
 all_goals try generalize (t0::T0).map Test.c=E0 at *
 all_goals refine zV zOU rfl ?_
 all_goals (simp only[zT,List.length_cons,List.length_nil,Nat.zero_add,Nat.reduceAdd];show W CC _ 29 (zE 113) _ _ _)
 all_goals (with_reducible repeat' first|apply aA|refine aB ?_|refine aC ?_|refine aD ?_|(first|apply zB|apply zA|apply zC|apply zD)<;>intro hg<;>try with_unfolding_all cases hg;done|refine aE ?_|refine aF ?_|refine aG ?_|refine aH ?_ ?_<;>intro hv<;>try with_unfolding_all cases hv;done)
 all_goals refine aK ?_ ?_
 all_goals first|rfl|(clear F_;simp_all;done)
theorem kD (nl cl:Bool) (L:List Tok) (hL:L.length<4000000000) (i n:Nat) (T:List Test) (hi:i≤L.length) (he:(zG L i).2.2≠0) :
  Om CC 113 [.box 0 0] (ru (.sl nl cl (L.map Tok.c)) i n T)=some (.pan (.t (ustop (zG L i).2.1 (zG L i).2.2)),ru (.sl nl cl (L.map Tok.c)) (zG L i).2.1 n T):=by
 have h1:=zEM nl cl L hL i hi;have h2:=zIv (.sl nl cl (L.map Tok.c)) (zG L i).2.1 n T (zG L i).2.2;simp only[zC1,vT,ustop] at h1 h2 ⊢;generalize zG L i=r at *;obtain⟨N,j,e⟩:=r;dsimp only at *;have he':(e != 0)=true:=by simpa using he
 clear he;generalize N.map Node.c=A at *;generalize Tree.sl nl cl (L.map Tok.c)=l at *
 (have F_:=c5 zK zO zR zL (c5 zI zH yA zS (c5 yB xX yG yF (c5 zY xP uE zQ (c3 vG zSK (c2 zHf zA6))))))
 rcases T with _|⟨t0,T0⟩
 all_goals simp only[ru,ruT,ruR] at h2 ⊢
 all_goals try generalize (t0::T0).map Test.c=E0 at *
 all_goals refine zBW zOU rfl ?_
 all_goals (simp only[zT,List.length_cons,List.length_nil,Nat.zero_add,Nat.reduceAdd];show W CC _ 29 (zE 113) _ _ _)
 all_goals (with_reducible repeat' first|apply aA|refine aB ?_|refine aC ?_|refine aD ?_|(first|apply zB|apply zA|apply zC|apply zD)<;>intro hg<;>try with_unfolding_all cases hg;done|refine aE ?_|refine aF ?_|refine aG ?_|refine aH ?_ ?_<;>intro hv<;>try with_unfolding_all cases hv;done)
 all_goals ((refine aLp2 ?_ ?_))
 all_goals first|rfl|(clear F_;simp_all;done)
theorem zJh (nl cl:Bool) (L:List Tok) (hL:L.length<4000000000) (i n:Nat) (T:List Test) (hi:i≤L.length) :
  Om CC 112 [.box 0 0] (ru (.sl nl cl (L.map Tok.c)) i n T)=some (.val (.t (.bool (vZ L i))),ru (.sl nl cl (L.map Tok.c)) i n T):=by
 have h1:=uis2 nl cl L i n T [91] [40] (by omega);have hX:vZ L i=((isW L i [91]||isW L i [40])&&((zG L (i+1)).2.2==0&&isW L (zG L (i+1)).2.1 [46,46])):=rfl;rw[hX];have hw:IntKind.i64.wrap ((i:Int)+1)=((i+1:Nat):Int):=by rw[wrap64]<;>omega
 cases hb:(isW L i [91]||isW L i [40]) with
 |false =>
  rw[hb] at h1;rw[Bool.false_and];clear hX hb;generalize Tree.sl nl cl (L.map Tok.c)=l at *
  (have F_:=c5 zK zO zR zL (c5 zI zH yA zS (c5 yB xX kH yG (c5 yF zY xP uE (c5 zQ vG zQO zAe zHf)))))
  rcases T with _|⟨t0,T0⟩
  all_goals simp only[ru,ruT,ruR] at h1 ⊢
  all_goals try generalize (t0::T0).map Test.c=E0 at *
  all_goals refine zV zOy rfl ?_
  all_goals (simp only[zT,List.length_cons,List.length_nil,Nat.zero_add,Nat.reduceAdd];show W CC _ 37 (zE 112) _ _ _)
  all_goals (with_reducible repeat' first|apply aA|refine aB ?_|refine aC ?_|refine aD ?_|(first|apply zB|apply zA|apply zC|apply zD)<;>intro hg<;>try with_unfolding_all cases hg;done|refine aE ?_|refine aF ?_|refine aG ?_|refine aH ?_ ?_<;>intro hv<;>try with_unfolding_all cases hv;done)
  all_goals refine aK ?_ ?_
  all_goals first|rfl
 |true =>
  rw[hb] at h1;rw[Bool.true_and];have hlt:i<L.length:=by
   rw[Bool.or_eq_true] at hb;rcases hb with h|h<;>exact yC h
  have h2:=zEM nl cl L hL (i+1) hlt;have hle:=vE (l:=L) (i:=i+1) hlt;have h3:=uis0 nl cl L (zG L (i+1)).2.1 0 [] [46,46] (by omega);simp only[zC1,vT] at h2;clear hX hb;generalize isW L (zG L (i+1)).2.1 [46,46]=b0 at *;generalize zG L (i+1)=r at *;obtain⟨N,j,e⟩:=r;dsimp only at *;generalize N.map Node.c=A at *;simp only[ru,ruT,ruR] at h3;have z0:((0:Nat):Int)=0:=rfl;rw[z0] at h3;clear z0;generalize L.map Tok.c=l at *
  (have F_:=c5 zK zO zR zL (c5 zI zH yA zS (c5 yB xX kH yG (c5 yF zY xP uE (c5 zQ vG zQO zAe zHf)))))
  rcases T with _|⟨t0,T0⟩
  all_goals simp only[ru,ruT,ruR] at h1 ⊢
  all_goals try generalize (t0::T0).map Test.c=E0 at *
  all_goals refine zV zOy rfl ?_
  all_goals (simp only[zT,List.length_cons,List.length_nil,Nat.zero_add,Nat.reduceAdd];show W CC _ 37 (zE 112) _ _ _)
  all_goals (with_reducible repeat' first|apply aA|refine aB ?_|refine aC ?_|refine aD ?_|(first|apply zB|apply zA|apply zC|apply zD)<;>intro hg<;>try with_unfolding_all cases hg;done|refine aE ?_|refine aF ?_|refine aG ?_|refine aH ?_ ?_<;>intro hv<;>try with_unfolding_all cases hv;done)
  all_goals refine aK ?_ ?_
  all_goals first|rfl|(clear F_;simp_all;done)
def RUo(l:Tree)(T:List Test)(r:RU)(o:Out)(h':Heap):Prop :=
 match r with
 |.ok k i n T'=>o=.val (.t (.int .i64 (k:Nat)))∧h'=ru l i n T'
 |.pan e i=>o=.pan (.t (ustop i e))∧∃n' T',h'=ru l i n' T'∧(T≠[]→T'≠[])
 |.oks _ _ _ _=>False
theorem qD (op:Int) (low high:Bool) (kids:List Nat) (p:Int×Int) (a b:List Node) :
  (yY op a b low high kids p).c=[.int .u8 op,vT a,vT b,.bool low,.bool high,.sl kids.isEmpty kids.isEmpty ((xU kids).map intC),.int .i64 p.1,.int .i64 p.2]:=by
 unfold yY Test.c vT;cases a<;>cases b<;>cases kids<;>rfl
theorem zTf {nl cl:Bool} {L:List Tok} (hL:L.length<4000000000) {i n:Nat} {T:List Test} (hi:i≤L.length) (hT:T.length<4294967295) (h:anyX L i=true) :
  ∃o h',Om CC 78 [.box 0 0] (ru (.sl nl cl (L.map Tok.c)) i n T)=some (o,h')∧RUo (.sl nl cl (L.map Tok.c)) T (.ok T.length (i+1) n (T++[yY 1 [] [] false false [] (plW L i)])) o h':=by
 unfold anyX at h;rw[Bool.and_eq_true] at h;have h1:=uis0 nl cl L i n T [45] (by omega);have h2:=zKf nl cl L hL i n T hi;have h3:=zAw nl cl L i n T;have hb:((zG L i).2.2==0)=false:=by(have:=h.2;simp at this ⊢;exact this)
 rw[h.1] at h1;rw[hb] at h2;have hw:IntKind.i64.wrap ((i:Int)+1)=((i+1:Nat):Int):=by rw[wrap64]<;>omega
 have h4:=uA (.sl nl cl (L.map Tok.c)) (i+1) n T (yY 1 [] [] false false [] (plW L i)) hT;rw[qD] at h4;clear h hb;simp only[vT,List.isEmpty_nil,xU,List.map_nil] at h4;generalize yY 1 [] [] false false [] (plW L i)=N at *;generalize (plW L i).1=p1 at *;generalize (plW L i).2=p2 at *;generalize hlenT:T.length=lenT at *;generalize Tree.sl nl cl (L.map Tok.c)=l at *;simp only[RUo]
 (have F_:=c5 zK zO zR zL (c5 zI zH yA zS (c5 yB xX kH yG (c5 yF zY xP uE (c5 zBI zBy zQ vG (c5 zDU zAe zCL zCj (c5 zCC zBJ zCg zCi (c2 zA6 zDf))))))))
 rcases T with _|⟨t0,T0⟩
 all_goals simp only[ru,ruT,ruR,List.nil_append,List.cons_append] at h1 h2 h3 h4 ⊢
 all_goals clear hlenT
 all_goals try generalize (t0::T0).map Test.c=E0 at *
 all_goals try generalize (t0::(T0++[N])).map Test.c=E1 at *
 all_goals try generalize [N].map Test.c=E1 at *
 all_goals refine wS zBB rfl ?_ (by kernel_rfl)
 all_goals (simp only[zT,List.length_cons,List.length_nil,Nat.zero_add,Nat.reduceAdd];show W CC _ 132 (zE 78) _ _ _)
 all_goals (with_reducible repeat' first|apply aA|refine aB ?_|refine aC ?_|refine aD ?_|(first|apply zB|apply zA|apply zC|apply zD)<;>intro hg<;>try with_unfolding_all cases hg;done|refine aE ?_|refine aF ?_|refine aG ?_|refine aH ?_ ?_<;>intro hv<;>try with_unfolding_all cases hv;done)
 all_goals refine aJ ?_
 all_goals exact⟨rfl,rfl⟩
end Go.Ab
