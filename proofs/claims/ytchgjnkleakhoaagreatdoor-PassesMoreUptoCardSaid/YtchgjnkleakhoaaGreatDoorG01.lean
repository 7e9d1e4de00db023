/- Lemmas. -/
import Derived.Test.YtchgjnkleakhoaaGreatDoorG00
import Derived.RecoverIn
import Derived.OrdersIn
import Derived.RangeFuncRecord
import Derived.Scope
import Derived.Orders
set_option maxRecDepth 1000000
set_option maxHeartbeats 40000000
set_option linter.all false
namespace Go.Ab
def Base(w0:World)(γ:G)(w:World):Prop:=w0.heap.size≤w.heap.size∧∀b,b<w0.heap.size→w.heap[b]?=w0.heap[b]?∧∀id,γ.β id≠some b
theorem Base.mono{w0:World}{γ γ':G}{w w':World}(h:Base w0 γ w)(f:Fr γ w γ' w'):Base w0 γ' w':=by
 refine⟨Nat.le_trans h.1 f.size,fun b hb=>⟨?_,fun id hid=>?_⟩⟩
 ·rw[f.keep b (by have:=h.1;omega) (h.2 b hb).2];exact(h.2 b hb).1
 rcases f.rng id b hid with h1|⟨i,h1⟩
 ·have:=h.1;omega
 exact(h.2 b hb).2 i h1
structure Keep (m:Nat) (γ:G) (g:Look) (γ':G) (g':Look):Prop where
 box:∀id b,id<m→γ.β id=some b→cur g id=none→γ'.β id=some b∧cur g' id=none
 arr:∀id,id<m→cur g id≠none→cur g' id≠none
theorem Ext.keep{γ γ':G}{g g':Look}(e:Ext γ g γ' g')(m:Nat):Keep m γ g γ' g':=by
 refine⟨fun id b _ hb hc=>e.box id b hb hc,fun id _ hc=>?_⟩;cases h:cur g id with
 |none=>exact absurd h hc
 |some c=>obtain⟨c',h1,_⟩:=e.arr id c h;rw[h1];simp
theorem Keep.trans{m:Nat}{γ₁ γ₂ γ₃:G}{g₁ g₂ g₃:Look}(h:Keep m γ₁ g₁ γ₂ g₂)(h':Keep m γ₂ g₂ γ₃ g₃):Keep m γ₁ g₁ γ₃ g₃:=by
 refine⟨fun id b hm hb hc=>?_,fun id hm hc=>h'.arr id hm (h.arr id hm hc)⟩;obtain⟨h1,h2⟩:=h.box id b hm hb hc;exact h'.box id b hm h1 h2
def Ends(γ:G)(g:Look):Out→Ending→Prop
 |.val v,.returned u=>VR γ g v u
 |.pan v,.panicked chain=>∃u,chain=[{ v:=u,recovered:=false }]∧VR γ g v u
 |_,_=>False
abbrev Wd (r:Option Nat):Fence:={ Fence.wide with round:=r }
def zHn{r:Option Nat}{n:Nat}{P:Program}{f:FuncId}{args:Array Value}{w:World}{R:Ending→World→Prop}:CallsIn (Wd r) n P f args w R↔Calls P f args w R :=
 callsIn_wide (n:=n)
def zE9:Value→FrameMode
 |.pointer none=>.returning
 |.agg a=>match a.toList with
  |[x,.bool b]=>.panicking [{ v:=x,recovered:=b }]
  |_=>.run
 |_=>.run
def CK(P:Program)(f:FuncId)(vs:List Value)(w:World)(R:Ending→World→Prop):Prop :=
 if f<P.funcs.size then Calls P f vs.toArray w R
 else if f=vK then ∃l us fn tmps asg body,vs=.func (.yield l) #[] #[]::us∧(Instr.yield l us.toArray).run P w=.ok (.round l fn tmps asg body) w∧∀r,RoundIn (Wd r) 0 P l fn tmps asg body w R
 else ∃u us,vs=u::us∧CallsDIn (Wd none) 0 P (f - xD) us.toArray (zE9 u) w fun e m w'=>∃x,e=.returned x∧∃v,settle m=zE9 v∧R (.returned v) w'
theorem CK.mono{P:Program}{f:FuncId}{vs:List Value}{w:World}{R R':Ending→World→Prop}(h:CK P f vs w R)(hr:∀e w',R e w'→R' e w'):CK P f vs w R':=by
 unfold CK at *;split
 ·rename_i h1;rw[if_pos h1] at h;exact h.mono hr
 rename_i h1;rw[if_neg h1] at h;split
 ·rename_i h2;rw[if_pos h2] at h;obtain⟨l,us,fn,tmps,asg,body,a1,a2,a3⟩:=h;exact⟨l,us,fn,tmps,asg,body,a1,a2,fun r=>(a3 r).mono hr⟩
 rename_i h2;rw[if_neg h2] at h;obtain⟨u,us,a1,a2⟩:=h;exact⟨u,us,a1,a2.mono fun e m w' ⟨x,h1,v,h2,h3⟩=>⟨x,h1,v,h2,hr _ _ h3⟩⟩
theorem CK.calls{P:Program}{f:FuncId}{vs:List Value}{w:World}{R:Ending→World→Prop}(h:CK P f vs w R)(hf:f<P.funcs.size):Calls P f vs.toArray w R:=by
 unfold CK at h;rwa [if_pos hf] at h
def zOj(P:Program)(w0:World)(f:FuncId)(args:List AV)(h:Heap)(out:Out)(h':Heap):Prop :=
 ∀(γ:G) (w:World) (vs:List Value),HR γ (nth h) w→Base w0 γ w→VRs γ (nth h) args vs →
  CK P f vs w fun e w'=>∃ γ',HR γ' (nth h') w'∧Fr γ w γ' w'∧qC γ.imm γ'.imm∧Keep h.length γ (nth h) γ' (nth h')∧Ends γ' (nth h') out e
def xW(P:Program)(w0:World)(ρ:Oracle):Prop:=∀f args h out h',ρ f args h=some (out,h')→zOj P w0 f args h out h'
def zBO{n:Nat}:∀ {l:List Nat},mem n l=true→l[place n l]?=some n
 |[],h=>by simp [mem] at h
 |a::l,h=>by
  unfold mem at h;unfold place;split at h
  ·rename_i hb;have:=Nat.eq_of_beq_eq_true hb;subst this;simp
  rename_i hb;simp [zBO h]
def zD8{n:Nat}:∀ {l:List Nat},mem n l=true↔n ∈ l
 |[]=>by simp [mem]
 |a::l=>by
  unfold mem;cases hb:Nat.beq a n with
  |true=>have:=Nat.eq_of_beq_eq_true hb;subst this;simp
  |false =>
   have:=Nat.ne_of_beq_eq_false hb;simp [zD8 (l:=l),Ne.symm this]
def zEb{g:Look}:∀(n:Nat) (todo acc r:List Nat),reach g n todo acc=some r→acc.Nodup→r.Nodup
 |0,_,_,_,h,_=>by simp [reach] at h
 |_+1,[],acc,r,h,hn=>by simp [reach] at h;subst h;exact hn
 |n+1,id::todo,acc,r,h,hn=>by
  unfold reach at h;split at h
  ·exact zEb n _ _ _ h hn
  rename_i hm;split at h
  ·refine zEb n _ _ _ h ?_;rw[List.nodup_append];refine⟨hn,by simp,fun a ha b hb=>?_⟩;simp at hb;subst hb;intro e;subst e;have:=zD8.2 ha;rw[this] at hm;cases hm
  cases h
def zDd{g:Look}{ids:List Nat}:∀ {l:List Nat} {h:Heap},sub1 g ids l=some h→h.length=l.length∧∀(k id:Nat),l[k]?=some id→∃o,g id=some o∧h[k]?=some (renO g ids o)
 |[],h,hs=>by simp [sub1] at hs;subst hs;exact⟨rfl,fun k id hk=>by simp at hk⟩
 |i::l,h,hs=>by
  unfold sub1 at hs;split at hs
  ·cases hs
  rename_i o ho;split at hs
  ·cases hs
  rename_i os hos;cases hs;obtain⟨h1,h2⟩:=zDd hos;refine⟨by simp [h1],fun k id hk=>?_⟩;cases k with
  |zero=>simp at hk;subst hk;exact⟨o,ho,rfl⟩
  |succ k=>simpa using h2 k id (by simpa using hk)
def G.sub(γ:G)(ids:List Nat):G :=
 {β:=fun k=>match ids[k]? with
   |some id=>γ.β id
   |none=>none
  sz:=fun k=>γ.sz (ids.getD k 0)
  imm:=γ.imm }
def zAw {g g':Look} {ids:List Nat} {o:Obj} {id k:Nat} (h:g id=some o) (h':g' k=some (renO g ids o)) :
  (cur g id=none→cur g' k=none)∧(∀c,cur g id=some c→cur g' k=some 0)∧(cur g id≠none→dims g' k=dims g id)∧(cur g' k≠none→cur g id≠none):=by
 unfold cur dims;rw[h,h'];cases o<;>simp [renO]
def zCp{γ:G}{g:Look}{ids:List Nat}{h:Heap}(hs:Ab.sub g ids=some h):∀(d:Nat) {x:AV} {u:Value},VR γ g x u→VR (γ.sub ids) (nth h) (ren g ids d x) u
 |0,_,u,_=>.unk u
 |d+1,x,u,hv=>by
  obtain⟨hlen,hspec⟩:=zDd hs;have look:∀ {id:Nat},mem id ids=true→∃o,g id=some o∧nth h (place id ids)=some (renO g ids o)∧ids[place id ids]?=some id:=fun {id} hm=>by
   have hp:=zBO hm;obtain⟨o,h1,h2⟩:=hspec _ _ hp;exact⟨o,h1,by rw[yP];exact h2,hp⟩
  have hβ:∀ {id:Nat},ids[place id ids]?=some id→(γ.sub ids).β (place id ids)=γ.β id:=fun {id} hp=>by simp only[G.sub,hp]
  have hsz:∀ {id:Nat},ids[place id ids]?=some id→(γ.sub ids).sz (place id ids)=γ.sz id:=fun {id} hp=>by simp only[G.sub,List.getD,hp,Option.getD_some]
  cases hv with
  |t x v hh=>exact .t x u hh
  |nov=>exact .nov
  |unk v=>exact .unk _
  |box id off b hb hc =>
   cases hm:mem id ids with
   |false=>simp only[ren,hm,cond_false];exact .unk _
   |true =>
    simp only[ren,hm,cond_true];obtain⟨o,h1,h2,h3⟩:=look hm;exact .box _ off b (by rw[hβ h3];exact hb) ((zAw h1 h2).1 hc)
  |el id ver i off a ho hh =>
   cases hm:(fresh g id ver&&mem id ids) with
   |false=>simp only[ren,hm,cond_false];exact .unk _
   |true =>
    simp only[ren,hm,cond_true];simp only[Bool.and_eq_true] at hm;obtain⟨hf,hm⟩:=hm;have hcu:=zDc.1 hf;obtain⟨o,h1,h2,h3⟩:=look hm;obtain⟨_,c2,c3,_⟩:=zAw h1 h2;have hc0:=c2 _ hcu;refine .el _ 0 i off a ⟨0,hc0,Nat.le_refl _⟩ fun _=>?_
    obtain⟨b,s,n,a1,a2,a3⟩:=hh hcu;exact⟨b,s,n,by rw[hβ h3];exact a1,by rw[c3 (by rw[hcu];simp)];exact a2,a3⟩
  |rp cs b o val h1 h2=>exact .rp cs b o val h1 h2
  |hs id ver a n cap ho hh =>
   cases hm:(fresh g id ver&&mem id ids) with
   |false=>simp only[ren,hm,cond_false];exact .unk _
   |true =>
    simp only[ren,hm,cond_true];simp only[Bool.and_eq_true] at hm;obtain⟨hf,hm⟩:=hm;have hcu:=zDc.1 hf;obtain⟨o,h1,h2,h3⟩:=look hm;obtain⟨_,c2,c3,_⟩:=zAw h1 h2;have hc0:=c2 _ hcu;refine .hs _ 0 a n cap ⟨0,hc0,Nat.le_refl _⟩ fun _=>?_
    obtain⟨b,s,a1,a2,a3,a4,a5⟩:=hh hcu;exact⟨b,s,by rw[hβ h3];exact a1,by rw[c3 (by rw[hcu];simp)];exact a2,a3,a4,by rw[hsz h3];exact a5⟩
  |hsub id ver lo len a cap ho hh =>
   cases hm:(fresh g id ver&&mem id ids) with
   |false=>simp only[ren,hm,cond_false];exact .unk _
   |true =>
    simp only[ren,hm,cond_true];simp only[Bool.and_eq_true] at hm;obtain⟨hf,hm⟩:=hm;have hcu:=zDc.1 hf;obtain⟨o,h1,h2,h3⟩:=look hm;obtain⟨_,c2,c3,_⟩:=zAw h1 h2;have hc0:=c2 _ hcu;refine .hsub _ 0 lo len a cap ⟨0,hc0,Nat.le_refl _⟩ fun _=>?_
    obtain⟨b,s,n,a1,a2,a3,a4,a5⟩:=hh hcu;exact⟨b,s,n,by rw[hβ h3];exact a1,by rw[c3 (by rw[hcu];simp)];exact a2,a3,a4,a5⟩
  |agg cs vs hl hh =>
   refine .agg (cs.map (ren g ids d)) vs (by simpa using hl) fun i c v hc hv=>?_
   rw[List.getElem?_map] at hc;cases hci:cs[i]? with
   |none=>rw[hci] at hc;cases hc
   |some c0=>rw[hci] at hc;cases hc;exact zCp hs d (hh i c0 v hci hv)
  |fn f as bs us vs hl hl' hh hh' =>
   refine .fn f (as.map (ren g ids d)) (bs.map (ren g ids d)) us vs (by simpa using hl) (by simpa using hl') (fun i c v hc hv=>?_) (fun i c v hc hv=>?_)
   ·rw[List.getElem?_map] at hc;cases hci:as[i]? with
    |none=>rw[hci] at hc;cases hc
    |some c0=>rw[hci] at hc;cases hc;exact zCp hs d (hh i c0 v hci hv)
   rw[List.getElem?_map] at hc;cases hci:bs[i]? with
   |none=>rw[hci] at hc;cases hc
   |some c0=>rw[hci] at hc;cases hc;exact zCp hs d (hh' i c0 v hci hv)
  |tup cs vs hl hh =>
   refine .tup (cs.map (ren g ids d)) vs (by simpa using hl) fun i c v hc hv=>?_
   rw[List.getElem?_map] at hc;cases hci:cs[i]? with
   |none=>rw[hci] at hc;cases hc
   |some c0=>rw[hci] at hc;cases hc;exact zCp hs d (hh i c0 v hci hv)
  |mp id b hb hc =>
   cases hm:mem id ids with
   |false=>simp only[ren,hm,cond_false];exact .unk _
   |true =>
    simp only[ren,hm,cond_true];obtain⟨o,h1,h2,h3⟩:=look hm;exact .mp _ b (by rw[hβ h3];exact hb) ((zAw h1 h2).1 hc)
  |yld id b hb hc =>
   cases hm:mem id ids with
   |false=>simp only[ren,hm,cond_false];exact .unk _
   |true =>
    simp only[ren,hm,cond_true];obtain⟨o,h1,h2,h3⟩:=look hm;exact .yld _ b (by rw[hβ h3];exact hb) ((zAw h1 h2).1 hc)
  |dfr ds v=>exact .dfr _ _
  |rnd v=>exact .rnd _
  |ifv t x v h=>exact .ifv t _ v (zCp hs d h)
  |ifx t v=>exact .ifx t v
theorem VRs.map{γ γ':G}{g g':Look}{f:AV→AV}(hf:∀x u,VR γ g x u→VR γ' g' (f x) u){xs:List AV}{vs:List Value}(h:VRs γ g xs vs):VRs γ' g' (xs.map f) vs:=by
 refine⟨by simpa using h.1,fun i x v hx hv=>?_⟩;rw[List.getElem?_map] at hx;cases hi:xs[i]? with
 |none=>rw[hi] at hx;cases hx
 |some y=>rw[hi] at hx;cases hx;exact hf _ _ (h.2 i y v hi hv)
def zOG{γ:G}{g:Look}{ids:List Nat}{h:Heap}(hs:Ab.sub g ids=some h){xs:List AV}{vs:List Value}(hv:VRs γ g xs vs):VRs (γ.sub ids) (nth h) (renL g ids xs) vs :=
 hv.map fun _ _ hx=>zCp hs depth hx
def zZo {γ:G} {g:Look} {w:World} {ids:List Nat} {h:Heap} (hs:Ab.sub g ids=some h) {id k b:Nat} {o:Obj} (hk:ids[k]?=some id) (ho:OR γ g w id b o) :
  OR (γ.sub ids) (nth h) w k b (renO g ids o):=by
 have hsz:(γ.sub ids).sz k=γ.sz id:=by simp only[G.sub,List.getD,hk,Option.getD_some]
 cases o with
 |box cs =>
  obtain⟨⟨c,ty,fr,h1,h2,h3⟩,h4⟩:=ho;exact⟨⟨c,ty,fr,h1,h2,zOG hs h3⟩,h4⟩
 |arr s ver frz es =>
  obtain⟨⟨c,ty,fr,h1,h2,h3,h4,h5,h6,h7⟩,h8⟩:=ho;exact⟨⟨c,ty,fr,h1,h2,h3.trans hsz.symm,h4,h5,h6,h7⟩,h8⟩
 |marr s ver es =>
  obtain⟨⟨c,ty,fr,h1,h2,h3,h4,h5,h6⟩,h8⟩:=ho;refine⟨⟨c,ty,fr,h1,h2,h3.trans hsz.symm,by simpa using h4,fun e he=>?_,fun i j e t v he ht hv=>?_⟩,h8⟩
  ·obtain⟨e0,he0,rfl⟩:=List.mem_map.1 he;simp [renL,h5 e0 he0]
  rw[List.getElem?_map] at he;cases hi:es[i]? with
  |none=>rw[hi] at he;cases he
  |some e0 =>
   rw[hi] at he;cases he;unfold renL at ht;rw[List.getElem?_map] at ht;cases hj:e0[j]? with
   |none=>rw[hj] at ht;cases ht
   |some t0=>rw[hj] at ht;cases ht;exact zCp hs depth (h6 i j e0 t0 v hi hj hv)
 |siter s pos=>exact ho
 |map es =>
  obtain⟨⟨xs,c,h1,h2,h3⟩,h4⟩:=ho;refine⟨⟨xs,c,h1,by simpa using h2,fun i e x he hx=>?_⟩,h4⟩;rw[List.getElem?_map] at he;cases hi:es[i]? with
  |none=>rw[hi] at he;cases he
  |some e0=>rw[hi] at he;cases he;exact ERel.of (γ:=γ) (g:=g) (γ':=γ.sub ids) (g':=nth h) rfl (fun _ _ hv=>zCp hs depth hv) (h3 i e0 x hi hx)
 |loop c T st j =>
  obtain⟨⟨r,h1,h2⟩,h4⟩:=ho;exact⟨⟨r,h1,LR.of (γ:=γ) (g:=g) rfl (fun _ _ hv=>zCp hs depth hv) h2⟩,h4⟩
 |dead=>exact ho
def zUd{γ:G}{g:Look}{w:World}{ids:List Nat}{h:Heap}(hr:HR γ g w)(hs:Ab.sub g ids=some h)(hn:ids.Nodup):HR (γ.sub ids) (nth h) w:=by
 obtain⟨hlen,hspec⟩:=zDd hs;refine⟨fun k b hb=>?_,fun k k' b hb hb'=>?_,hr.imm⟩
 ·cases hk:ids[k]? with
  |none=>simp only[G.sub,hk] at hb;cases hb
  |some id =>
   simp only[G.sub,hk] at hb;obtain⟨o,ho,hor⟩:=hr.obj id b hb;obtain⟨o',ho',hh⟩:=hspec k id hk;rw[ho] at ho';cases ho';exact⟨renO g ids o,by rw[yP];exact hh,zZo hs hk hor⟩
 cases hk:ids[k]? with
 |none=>simp only[G.sub,hk] at hb;cases hb
 |some id =>
  cases hk':ids[k']? with
  |none=>simp only[G.sub,hk'] at hb';cases hb'
  |some id' =>
   simp only[G.sub,hk] at hb;simp only[G.sub,hk'] at hb';have:=hr.inj id id' b hb hb';subst this;have h1:=zR hk;have h2:=zR hk';rw[List.getElem?_eq_getElem h1] at hk;rw[List.getElem?_eq_getElem h2] at hk';exact(List.getElem_inj hn).1 (by rw[Option.some.inj hk,Option.some.inj hk'])
structure Back (y:Way) (γ:G) (γ':G) (g':Look):Prop where
 β:∀k b,γ.β k=some b→γ'.β (y.id k)=some b
 none:∀k,cur y.g k=none→(∃b,γ.β k=some b)→cur g' (y.id k)=none
 cur:∀k c,cur y.g k=some c→cur g' (y.id k)=some (y.ver k)
 dims:∀k c,Ab.cur y.g k=some c→dims g' (y.id k)=Ab.dims y.g k∧γ'.sz (y.id k)=γ.sz k
 imm:γ'.imm=γ.imm
def zBt{y:Way}{γ γ':G}{g':Look}(hb:Back y γ γ' g'):∀(d:Nat) {x:AV} {u:Value},VR γ y.g x u→VR γ' g' (back y d x) u
 |0,_,u,_=>.unk u
 |d+1,x,u,hv=>by
  cases hv with
  |t x v hh=>exact .t x u (by rw[hb.imm];exact hh)
  |nov=>exact .nov
  |unk v=>exact .unk _
  |box k off b hk hc=>exact .box _ off b (hb.β k b hk) (hb.none k hc ⟨b,hk⟩)
  |el k ver i off a ho hh =>
   cases hm:fresh y.g k ver with
   |false=>simp only[back,hm,cond_false];exact .unk _
   |true =>
    simp only[back,hm,cond_true];have hcu:=zDc.1 hm;have hc:=hb.cur k ver hcu;refine .el _ _ i off a ⟨_,hc,Nat.le_refl _⟩ fun _=>?_
    obtain⟨b,s,n,a1,a2,a3⟩:=hh hcu;exact⟨b,s,n,hb.β k b a1,by rw[(hb.dims k ver hcu).1];exact a2,a3⟩
  |rp cs b o val h1 h2=>exact .rp cs b o val (by rw[hb.imm];exact h1) (by rw[hb.imm];exact h2)
  |hs k ver a n cap ho hh =>
   cases hm:fresh y.g k ver with
   |false=>simp only[back,hm,cond_false];exact .unk _
   |true =>
    simp only[back,hm,cond_true];have hcu:=zDc.1 hm;have hc:=hb.cur k ver hcu;refine .hs _ _ a n cap ⟨_,hc,Nat.le_refl _⟩ fun _=>?_
    obtain⟨b,s,a1,a2,a3,a4,a5⟩:=hh hcu;exact⟨b,s,hb.β k b a1,by rw[(hb.dims k ver hcu).1];exact a2,a3,a4,by rw[(hb.dims k ver hcu).2];exact a5⟩
  |hsub k ver lo len a cap ho hh =>
   cases hm:fresh y.g k ver with
   |false=>simp only[back,hm,cond_false];exact .unk _
   |true =>
    simp only[back,hm,cond_true];have hcu:=zDc.1 hm;have hc:=hb.cur k ver hcu;refine .hsub _ _ lo len a cap ⟨_,hc,Nat.le_refl _⟩ fun _=>?_
    obtain⟨b,s,n,a1,a2,a3,a4,a5⟩:=hh hcu;exact⟨b,s,n,hb.β k b a1,by rw[(hb.dims k ver hcu).1];exact a2,a3,a4,a5⟩
  |agg cs vs hl hh =>
   refine .agg (cs.map (back y d)) vs (by simpa using hl) fun i c v hc hv=>?_
   rw[List.getElem?_map] at hc;cases hci:cs[i]? with
   |none=>rw[hci] at hc;cases hc
   |some c0=>rw[hci] at hc;cases hc;exact zBt hb d (hh i c0 v hci hv)
  |fn f as bs us vs hl hl' hh hh' =>
   refine .fn f (as.map (back y d)) (bs.map (back y d)) us vs (by simpa using hl) (by simpa using hl') (fun i c v hc hv=>?_) (fun i c v hc hv=>?_)
   ·rw[List.getElem?_map] at hc;cases hci:as[i]? with
    |none=>rw[hci] at hc;cases hc
    |some c0=>rw[hci] at hc;cases hc;exact zBt hb d (hh i c0 v hci hv)
   rw[List.getElem?_map] at hc;cases hci:bs[i]? with
   |none=>rw[hci] at hc;cases hc
   |some c0=>rw[hci] at hc;cases hc;exact zBt hb d (hh' i c0 v hci hv)
  |tup cs vs hl hh =>
   refine .tup (cs.map (back y d)) vs (by simpa using hl) fun i c v hc hv=>?_
   rw[List.getElem?_map] at hc;cases hci:cs[i]? with
   |none=>rw[hci] at hc;cases hc
   |some c0=>rw[hci] at hc;cases hc;exact zBt hb d (hh i c0 v hci hv)
  |mp k b hk hc=>exact .mp _ b (hb.β k b hk) (hb.none k hc ⟨b,hk⟩)
  |yld k b hk hc=>exact .yld _ b (hb.β k b hk) (hb.none k hc ⟨b,hk⟩)
  |dfr ds v=>exact .dfr _ _
  |rnd v=>exact .rnd _
  |ifv t x v h=>exact .ifv t _ v (zBt hb d h)
  |ifx t v=>exact .ifx t v
def zVR {y:Way} {γ γ':G} {g':Look} {w:World} (hb:Back y γ γ' g') {k b:Nat} {o:Obj} (hk:y.g k=some o) (ho:OR γ y.g w k b o) :
  OR γ' g' w (y.id k) b (zB7 y (y.ver k) o):=by
 cases o with
 |box cs =>
  obtain⟨⟨c,ty,fr,h1,h2,h3⟩,h4⟩:=ho;exact⟨⟨c,ty,fr,h1,h2,h3.map fun _ _ hx=>zBt hb depth hx⟩,by rw[hb.imm];exact h4⟩
 |arr s ver frz es =>
  obtain⟨⟨c,ty,fr,h1,h2,h3,h4,h5,h6,h7⟩,h8⟩:=ho;have hsz:=(hb.dims k ver (kR hk)).2;exact⟨⟨c,ty,fr,h1,h2,h3.trans hsz.symm,h4,h5,by rw[hb.imm];exact h6,by rw[hb.imm];exact h7⟩,by rw[hb.imm];exact h8⟩
 |marr s ver es =>
  obtain⟨⟨c,ty,fr,h1,h2,h3,h4,h5,h6⟩,h8⟩:=ho;have hsz:=(hb.dims k ver (by unfold cur;rw[hk])).2;refine⟨⟨c,ty,fr,h1,h2,h3.trans hsz.symm,by simpa using h4,fun e he=>?_,fun i j e t v he ht hv=>?_⟩,by rw[hb.imm];exact h8⟩
  ·obtain⟨e0,he0,rfl⟩:=List.mem_map.1 he;simp [zDq,h5 e0 he0]
  rw[List.getElem?_map] at he;cases hi:es[i]? with
  |none=>rw[hi] at he;cases he
  |some e0 =>
   rw[hi] at he;cases he;unfold zDq at ht;rw[List.getElem?_map] at ht;cases hj:e0[j]? with
   |none=>rw[hj] at ht;cases ht
   |some t0=>rw[hj] at ht;cases ht;exact zBt hb depth (h6 i j e0 t0 v hi hj hv)
 |siter s pos=>exact⟨ho.1,by rw[hb.imm];exact ho.2⟩
 |map es =>
  obtain⟨⟨xs,c,h1,h2,h3⟩,h4⟩:=ho;refine⟨⟨xs,c,h1,by simpa using h2,fun i e x he hx=>?_⟩,by rw[hb.imm];exact h4⟩;rw[List.getElem?_map] at he;cases hi:es[i]? with
  |none=>rw[hi] at he;cases he
  |some e0=>rw[hi] at he;cases he;exact ERel.of (γ:=γ) hb.imm (fun _ _ hv=>zBt hb depth hv) (h3 i e0 x hi hx)
 |loop c T st j =>
  obtain⟨⟨r,h1,h2⟩,h4⟩:=ho;exact⟨⟨r,h1,LR.of (γ:=γ) rfl (fun _ _ hv=>zBt hb depth hv) h2⟩,by rw[hb.imm];exact h4⟩
 |dead=>exact ho
def zCs{y:Way}:∀(k:Nat) (os:List Obj) (i:Nat) (o:Obj),(i,o) ∈ vD y k os↔∃j x,os[j]?=some x∧i=y.id (k+j)∧o=zB7 y (y.ver (k+j)) x
 |k,[],i,o=>by simp [vD]
 |k,x::os,i,o=>by
  simp only[vD,List.mem_cons,Prod.mk.injEq,zCs (k+1) os i o]
  constructor
  ·rintro(⟨rfl,rfl⟩|⟨j,x',h1,h2,h3⟩)
   ·exact⟨0,x,rfl,rfl,rfl⟩
   exact⟨j+1,x',by simpa using h1,by rw[h2];congr 1;omega,by rw[h3];congr 2;omega⟩
  rintro⟨j,x',h1,h2,h3⟩;cases j with
  |zero=>simp at h1;subst h1;exact .inl ⟨h2,h3⟩
  |succ j=>exact .inr ⟨j,x',by simpa using h1,by rw[h2];congr 1;omega,by rw[h3];congr 2;omega⟩
def zLn{g:Look}:∀ {ids:List Nat} {k id:Nat},ids[k]?=some id→getN (vO g ids) k=zCJ (g id)
 |[],k,id,h=>by simp at h
 |i::ids,0,id,h=>by simp at h;subst h;rfl
 |i::ids,k+1,id,h=>by
  have:=zLn (g:=g) (ids:=ids) (k:=k) (id:=id) (by simpa using h)
  simpa [vO,getN,nth] using this
def zQX{l:List Nat}{k x:Nat}(h:l[k]?=some x):getN l k=x:=by
 unfold getN;rw[yP,h];rfl
def zIe{n k:Nat}:∀ {l:List Nat},l.Nodup→l[k]?=some n→place n l=k∧mem n l=true:=by
 intro l hn hk;have hm:mem n l=true:=zD8.2 (List.mem_of_getElem? hk);have hp:=zBO hm;refine⟨?_,hm⟩;have h1:=zR hk;have h2:=zR hp;rw[List.getElem?_eq_getElem h1] at hk;rw[List.getElem?_eq_getElem h2] at hp;exact(List.getElem_inj hn).1 (by rw[Option.some.inj hk,Option.some.inj hp])
def G.back(γ γ':G)(ids:List Nat)(nid:Nat)(fresh:Nat→Bool):G :=
 {β:=fun i=>if fresh i=true then γ'.β (ids.length+(i - nid)) else if mem i ids=true then γ'.β (place i ids) else γ.β i
  sz:=fun i=>if fresh i=true then γ'.sz (ids.length+(i - nid)) else if mem i ids=true then γ'.sz (place i ids) else γ.sz i
  imm:=γ'.imm }
def zIa {y:Way} {g':Look} {k:Nat} {o:Obj} {i ver:Nat} (h:y.g k=some o) (h':g' i=some (zB7 y ver o)) :
  (cur y.g k=none→cur g' i=none)∧(∀c,cur y.g k=some c→cur g' i=some ver)∧(cur y.g k≠none→dims g' i=dims y.g k):=by
 unfold cur dims;rw[h,h'];cases o<;>simp [zB7]
def zW4 {γ γ':G} {g:Look} {w w':World} {ids:List Nat} {nid:Nat} {h h':Heap} (hr:HR γ g w) (hn:ids.Nodup) (hs:Ab.sub g ids=some h)
  (hr':HR γ' (nth h') w') (hf:Fr (γ.sub ids) w γ' w') (hi:qC γ.imm γ'.imm) (hkeep:Keep h.length (γ.sub ids) (nth h) γ' (nth h'))
  (hnew:∀j,ids.length+j<h'.length→γ.β (nid+j)=none∧g (nid+j)=none) :
  ∃ γ'',Ext γ g γ'' (upd g (vD ⟨nth h',ids.length,ids,vO g ids,nid⟩ 0 h'))∧HR γ'' (upd g (vD ⟨nth h',ids.length,ids,vO g ids,nid⟩ 0 h')) w'∧Fr γ w γ'' w' ∧
   ∀v u,VR γ' (nth h') v u→VR γ'' (upd g (vD ⟨nth h',ids.length,ids,vO g ids,nid⟩ 0 h')) (back ⟨nth h',ids.length,ids,vO g ids,nid⟩ depth v) u:=by
 obtain⟨hl,hspec⟩:=zDd hs;generalize hy:(⟨nth h',ids.length,ids,vO g ids,nid⟩:Way)=y;have yg:y.g=nth h':=by rw[← hy]
 have ylo:∀k id,ids[k]?=some id→y.id k=id:=fun k id hk=>by
  have:=zR hk;rw[← hy];unfold Way.id;have hb:Nat.blt k ids.length=true:=by rw[Nat.blt_eq];exact this
  simp only[hb,cond_true];exact zQX hk
 have yhi:∀k,ids.length≤k→y.id k=nid+(k - ids.length):=fun k hk=>by
  rw[← hy];unfold Way.id;have hb:Nat.blt k ids.length=false:=by
   cases hb:Nat.blt k ids.length with
   |false=>rfl
   |true=>rw[Nat.blt_eq] at hb;omega
  simp only[hb,cond_false]
 have yver:∀k id,ids[k]?=some id→y.ver k=zCJ (g id):=fun k id hk=>by
  have:=zR hk;rw[← hy];unfold Way.ver;have hb:Nat.blt k ids.length=true:=by rw[Nat.blt_eq];exact this
  simp only[hb,cond_true];exact zLn hk
 -- which numbers are new
 let isnew:Nat→Bool:=fun i=>decide (nid≤i∧ids.length+(i - nid)<h'.length)
 have hnewi:∀i,isnew i=true→γ.β i=none∧g i=none∧mem i ids=false∧y.id (ids.length+(i - nid))=i:=fun i hi=>by
  have hi:=of_decide_eq_true hi;obtain⟨h1,h2⟩:=hnew (i - nid) hi.2;have:nid+(i - nid)=i:=by omega
  rw[this] at h1 h2;refine⟨h1,h2,?_,?_⟩
  ·cases hm:mem i ids with
   |false=>rfl
   |true =>
    obtain⟨o,ho,_⟩:=hspec _ _ (zBO hm);rw[ho] at h2;cases h2
  rw[yhi _ (by omega)];omega
 -- every uB of the answer's heap is an old one or a new one
 have hcase:∀k o,h'[k]?=some o→(∃id,ids[k]?=some id∧y.id k=id∧isnew id=false∧mem id ids=true∧place id ids=k) ∨
   (ids.length≤k∧isnew (y.id k)=true∧ids.length+(y.id k - nid)=k):=fun k o hk=>by
  have hk':=zR hk;rcases Nat.lt_or_ge k ids.length with hlt|hge
  ·have hid:ids[k]?=some ids[k]:=List.getElem?_eq_getElem hlt;refine .inl ⟨ids[k],hid,ylo _ _ hid,?_,(zIe hn hid).2,(zIe hn hid).1⟩;cases hx:isnew ids[k] with
   |false=>rfl
   |true =>
    have:=(hnewi _ hx).2.2.1;rw[(zIe hn hid).2] at this;cases this
  have he:=yhi k hge;refine .inr ⟨hge,decide_eq_true ?_,?_⟩
  ·rw[he];exact⟨by omega,by
                  have:ids.length+(nid+(k - ids.length) - nid)=k:=by omega
                  rw[this];exact hk'⟩
  rw[he];omega
 have yinj:∀k k' o o',h'[k]?=some o→h'[k']?=some o'→y.id k=y.id k'→k=k':=fun k k' o o' hk hk' he=>by
  rcases hcase k o hk with ⟨id,a1,a2,a3,a4,a5⟩|⟨a1,a2,a3⟩<;>rcases hcase k' o' hk' with ⟨id',b1,b2,b3,b4,b5⟩|⟨b1,b2,b3⟩
  ·rw[← a5,← b5,← a2,← b2,he]
  ·rw[← he,a2,a3] at b2;cases b2
  ·rw[he,b2,b3] at a2;cases a2
  rw[← a3,← b3,he]
 have look:∀k o,h'[k]?=some o→upd g (vD y 0 h') (y.id k)=some (zB7 y (y.ver k) o):=fun k o hk=>by
  refine zP6 (fun o' ho'=>?_) (.inr ⟨_,(zCs 0 h' _ _).2 ⟨k,o,hk,by simp,by simp;rfl⟩⟩);obtain⟨j,x,h1,h2,h3⟩:=(zCs 0 h' _ _).1 ho';simp only[Nat.zero_add] at h2 h3;have:=yinj k j o x hk h1 h2;subst this;rw[hk] at h1;cases h1;exact h3
 have other:∀i,isnew i=false→mem i ids=false→upd g (vD y 0 h') i=g i:=fun i h1 h2=>by
  refine zD9 fun o ho=>?_
  obtain⟨j,x,a1,a2,a3⟩:=(zCs 0 h' _ _).1 ho;simp only[Nat.zero_add] at a2;rcases hcase j x a1 with ⟨id,b1,b2,b3,b4,b5⟩|⟨b1,b2,b3⟩
  ·rw[a2,b2,b4] at h2;cases h2
  rw[a2,b2] at h1;cases h1
 let γ'':=γ.back γ' ids nid isnew
 have βk:∀k o,h'[k]?=some o→γ''.β (y.id k)=γ'.β k∧γ''.sz (y.id k)=γ'.sz k:=fun k o hk=>by
  rcases hcase k o hk with ⟨id,b1,b2,b3,b4,b5⟩|⟨b1,b2,b3⟩
  ·simp [γ'',G.back,b2,b3,b4,b5]
  simp [γ'',G.back,b2,b3]
 have hobj:∀k b,γ'.β k=some b→∃o,h'[k]?=some o∧OR γ' (nth h') w' k b o:=fun k b hk=>by
  obtain⟨o,h1,h2⟩:=hr'.obj k b hk;exact⟨o,by rw[← yP];exact h1,h2⟩
 have hcurk:∀k c,cur y.g k=some c→∃o,h'[k]?=some o:=fun k c hc=>by
  rw[yg] at hc;unfold cur at hc;cases ho:nth h' k with
  |none=>rw[ho] at hc;cases hc
  |some o=>exact⟨o,by rw[← yP];exact ho⟩
 have hb:Back y γ' γ'' (upd g (vD y 0 h')):=by
  refine⟨fun k b hk=>?_,fun k hc ⟨b,hk⟩=>?_,fun k c hc=>?_,fun k c hc=>?_,rfl⟩
  ·obtain⟨o,ho,_⟩:=hobj k b hk;rw[(βk k o ho).1];exact hk
  ·obtain⟨o,ho,_⟩:=hobj k b hk;exact(zIa (by rw[yg,yP];exact ho) (look k o ho)).1 hc
  ·obtain⟨o,ho⟩:=hcurk k c hc;exact(zIa (by rw[yg,yP];exact ho) (look k o ho)).2.1 c hc
  obtain⟨o,ho⟩:=hcurk k c hc;exact⟨(zIa (by rw[yg,yP];exact ho) (look k o ho)).2.2 (by rw[hc];simp),(βk k o ho).2⟩
 have hsubβ:∀ {k id b:Nat},ids[k]?=some id→((γ.sub ids).β k=some b↔γ.β id=some b):=fun {k id b} hk=>by simp only[G.sub,hk]
 have hsubr:∀k b,(γ.sub ids).β k=some b→∃id,ids[k]?=some id∧γ.β id=some b:=fun k b hk=>by
  cases hid:ids[k]? with
  |none=>simp only[G.sub,hid] at hk;cases hk
  |some id=>exact⟨id,rfl,by simpa only [G.sub,hid] using hk⟩
 -- a block of the caller's own is none of the callee's
 have hown:∀i b,γ.β i=some b→mem i ids=false→∀k,(γ.sub ids).β k≠some b:=fun i b hb hm k hk=>by
  obtain⟨id,h1,h2⟩:=hsubr k b hk;have:=hr.inj i id b hb h2;subst this;rw[zD8.2 (List.mem_of_getElem? h1)] at hm;cases hm
 have himm:∀i b,γ.β i=some b→mem i ids=false→∀o,γ'.imm b o=γ.imm b o:=fun i b hb hm o=>by
  cases hv:γ.imm b o with
  |some v=>exact hi _ _ _ hv
  |none =>
   cases hv':γ'.imm b o with
   |none=>rfl
   |some v =>
    rcases hf.immr b o v hv' with h1|h1|⟨k,h1⟩
    ·have h1:γ.imm b o=some v:=h1;rw[hv] at h1;cases h1
    ·have:=hr.lt hb;omega
    exact absurd h1 (hown i b hb hm k)
 -- the three kinds of numbers
 have kinds:∀i b,γ''.β i=some b→(∃k o,h'[k]?=some o∧y.id k=i∧γ'.β k=some b)∨(γ.β i=some b∧isnew i=false∧mem i ids=false):=fun i b hb=>by
  cases h1:isnew i with
  |true =>
   simp only[γ'',G.back,h1,if_true] at hb;obtain⟨o,ho,_⟩:=hobj _ _ hb;exact .inl ⟨_,o,ho,(hnewi i h1).2.2.2,hb⟩
  |false =>
   cases h2:mem i ids with
   |true =>
    simp only[γ'',G.back,h1,h2,if_true,Bool.false_eq_true,if_false] at hb;obtain⟨o,ho,_⟩:=hobj _ _ hb;exact .inl ⟨_,o,ho,ylo _ _ (zBO h2),hb⟩
   |false =>
    simp only[γ'',G.back,h1,h2,Bool.false_eq_true,if_false] at hb;exact .inr ⟨hb,rfl,rfl⟩
 have notnew:∀i,(γ.β i≠none∨g i≠none)→isnew i=false:=fun i hx=>by
  cases h1:isnew i with
  |false=>rfl
  |true =>
       rcases hx with hx|hx
       ·exact absurd (hnewi i h1).1 hx
       exact absurd (hnewi i h1).2.1 hx
 have ext:Ext γ g γ'' (upd g (vD y 0 h')):=by
  refine⟨hi,fun i b hib hc=>?_,fun i c hc=>?_⟩
  ·have h1:=notnew i (.inl (by rw[hib];simp));cases h2:mem i ids with
   |false=>exact⟨by simp only[γ'',G.back,h1,h2,Bool.false_eq_true,if_false];exact hib,by unfold cur;rw[other i h1 h2];exact hc⟩
   |true =>
    have hp:=zBO h2;obtain⟨o,ho,hh⟩:=hspec _ _ hp;have hlt:=zR hh;have hh':nth h (place i ids)=some (renO g ids o):=by rw[yP];exact hh
    obtain⟨hbk,c1⟩:=hkeep.box _ b hlt ((hsubβ hp).2 hib) ((zAw ho hh').1 hc);have e:=ylo _ _ hp;refine⟨by have:=hb.β _ b hbk;rw[e] at this;exact this,?_⟩;have:=hb.none _ (by rw[yg];exact c1) ⟨b,hbk⟩;rw[e] at this;exact this
  have hgi:g i≠none:=fun e=>by rw[zJr e] at hc;cases hc
  have h1:=notnew i (.inr hgi);cases h2:mem i ids with
  |false =>
   have e1:γ''.β i=γ.β i:=by simp only[γ'',G.back,h1,h2,Bool.false_eq_true,if_false]
   have e2:γ''.sz i=γ.sz i:=by simp only[γ'',G.back,h1,h2,Bool.false_eq_true,if_false]
   exact⟨c,by unfold cur;rw[other i h1 h2];exact hc,Nat.le_refl _,fun _=>⟨e1,e2,by unfold dims;rw[other i h1 h2]⟩⟩
  |true =>
   have hp:=zBO h2;obtain⟨o,ho,hh⟩:=hspec _ _ hp;have hlt:=zR hh;have hh':nth h (place i ids)=some (renO g ids o):=by rw[yP];exact hh
   have c0:=(zAw ho hh').2.1 c hc;have c1:=hkeep.arr _ hlt (by rw[c0];simp);have e:=ylo _ _ hp;cases hc':cur (nth h') (place i ids) with
   |none=>exact absurd hc' c1
   |some c' =>
    have:=hb.cur _ c' (by rw[yg];exact hc');rw[e,yver _ _ hp] at this;have hv:zCJ (g i)=c+1:=by
     unfold cur at hc;unfold zCJ;split at hc
     ·rename_i hg;try rw[hg]
      cases hc;rfl
     ·rename_i hg;try rw[hg]
      cases hc;rfl
     cases hc
    rw[hv] at this;exact⟨c+1,this,by omega,fun he=>by omega⟩
 refine⟨γ'',ext,⟨fun i b hib=>?_,fun i i' b hib hib'=>?_,hr'.imm⟩,⟨hf.size,fun b hlt hne=>?_,fun i b hib=>?_,fun b o v hv=>?_,hf.same⟩,fun v u hv=>zBt hb depth (by rw[yg];exact hv)⟩
 ·rcases kinds i b hib with ⟨k,o,h1,h2,h3⟩|⟨h1,h2,h3⟩
  ·obtain⟨o',ho',hor⟩:=hobj k b h3;rw[h1] at ho';cases ho';subst h2;exact⟨_,look k o h1,zVR hb (by rw[yg,yP];exact h1) (by rw[yg];exact hor)⟩
  obtain⟨o,ho,hor⟩:=hr.obj i b h1;exact⟨o,by rw[other i h2 h3];exact ho,hor.mono ext (hf.keep b hor.lt (hown i b h1 h3)) (by simp only[γ'',G.back,h2,h3,Bool.false_eq_true,if_false]) (himm i b h1 h3)⟩
 ·have cross:∀i j k,γ.β i=some b→mem i ids=false→γ'.β k=some b→i=j:=fun i j k h1 h3 h4=>by
   rcases hf.rng k b h4 with h5|⟨k',h5⟩
   ·have:=hr.lt h1;omega
   exact absurd h5 (hown i b h1 h3 k')
  rcases kinds i b hib with ⟨k,o,h1,h2,h3⟩|⟨h1,h2,h3⟩<;>rcases kinds i' b hib' with ⟨k',o',h1',h2',h3'⟩|⟨h1',h2',h3'⟩
  ·have:=hr'.inj k k' b h3 h3';subst this;rw[← h2,← h2']
  ·exact(cross i' i k h1' h3' h3).symm
  ·exact cross i i' k' h1 h3 h3'
  exact hr.inj i i' b h1 h1'
 ·refine hf.keep b hlt fun k hk=>?_
  obtain⟨id,h1,h2⟩:=hsubr k b hk;exact hne id h2
 ·rcases kinds i b hib with ⟨k,o,h1,h2,h3⟩|⟨h1,h2,h3⟩
  ·rcases hf.rng k b h3 with h4|⟨k',h4⟩
   ·exact .inl h4
   obtain⟨id,_,h6⟩:=hsubr k' b h4;exact .inr ⟨id,h6⟩
  exact .inr ⟨i,h1⟩
 rcases hf.immr b o v hv with h1|h1|⟨k,h1⟩
 ·exact .inl h1
 ·exact .inr (.inl h1)
 obtain⟨id,_,h6⟩:=hsubr k b h1;exact .inr (.inr ⟨id,h6⟩)
def zNq{I J:Imm}{x:Tree}{v:Value}(hp:zB2 x=true)(h:TR I x v):TR J x v:=by
 have atom:∀ {c:Tree} {v:Value},(match c with
   |.sl _ _ _|.agg _|.ifc _ _=>false
   |_=>true)=true→TR I c v→TR J c v:=by
  intro c v hc hv;cases hv with
  |bool b=>exact .bool b
  |int k n=>exact .int k n
  |str s hs=>exact .str s hs
  |sl=>cases hc
  |agg=>cases hc
  |ifc=>cases hc
  |nilifc=>exact .nilifc
  |fn f=>exact .fn f
  |nilfn=>exact .nilfn
  |nilptr=>exact .nilptr
  |nilmap=>exact .nilmap
 cases h with
 |bool b=>exact .bool b
 |int k n=>exact .int k n
 |str s hs=>exact .str s hs
 |sl=>cases hp
 |agg cs vs hl h =>
  refine .agg cs vs hl fun i c v hc hv=>atom ?_ (h i c v hc hv)
  simp only[zB2,List.all_eq_true] at hp;exact hp c (List.mem_of_getElem? hc)
 |ifc t x v h=>exact .ifc t x v (atom hp h)
 |nilifc=>exact .nilifc
 |fn f=>exact .fn f
 |nilfn=>exact .nilfn
 |nilptr=>exact .nilptr
 |nilmap=>exact .nilmap
def zOb{γ γ':G}{g g':Look}{v:AV}{u:Value}(hp:plain v=true)(h:VR γ g v u):VR γ' g' v u:=by
 cases h with
 |t x v h=>exact .t x u (zNq hp h)
 |nov=>exact .nov
 |tup cs vs hl h =>
  refine .tup cs vs hl fun i c v hc hv=>?_
  simp only[plain,List.all_eq_true] at hp;have hpc:=hp c (List.mem_of_getElem? hc);have hcv:=h i c v hc hv;cases hcv with
  |t x v h=>exact .t x _ (zNq hpc h)
  |nov=>exact .nov
  |ifx t v=>exact .ifx t v
  |_=>cases hpc
 |ifx t v=>exact .ifx t v
 |_=>cases hp
def zNM(γ:G)(g:Look)(w:World)(p:Patch)(out:Out)(e:Ending)(w':World):Prop :=
 ∃ γ',Ext γ g γ' (upd g p)∧HR γ' (upd g p) w'∧Fr γ w γ' w'∧Ends γ' (upd g p) out e
theorem HR.of_keep{γ:G}{g:Look}{w w':World}(h:HR γ g w)(hk:∀b,b<w.heap.size→w'.heap[b]?=w.heap[b]?):HR γ g w':=by
 refine⟨fun id b hb=>?_,h.inj,fun b o v hv=>?_⟩
 ·obtain⟨o,ho,hor⟩:=h.obj id b hb;exact⟨o,ho,hor.mono (.refl _ _) (hk b hor.lt) rfl (fun _=>rfl)⟩
 have hc:=h.imm b o v hv;rw[zAd (hk b (zEU hc))];exact hc
def zE1 {P:Program} {w0:World} {ρ:Oracle} (hρ:xW P w0 ρ) {γ γ1:G} {g:Look} {w:World} {frz:Patch} {nid:Nat} {f:FuncId} {args:List AV} {vs:List Value}
  {out:Out} {p:Patch} (hr:HR γ g w) (hb:Base w0 γ1 w) (e1:Ext γ g γ1 (upd g frz)) (hr1:HR γ1 (upd g frz) w) (f1:Fr γ w γ1 w) (hv:VRs γ1 (upd g frz) args vs)
  (hx:uC ρ (upd g frz) frz nid f args=some (out,p)) (hfree:∀i o,nid≤i→(i,o) ∈ p→γ1.β i=none∧upd g frz i=none) :
  CK P f vs w (zNM γ g w p out):=by
 unfold uC at hx;split at hx
 ·cases hx
 rename_i ids hids;have hnod:=zEb _ _ _ _ hids (by simp);split at hx
 ·cases hx
 rename_i h hs
 -- what the callee's answer is
 have main:∀(o:Out) (v:AV) (h':Heap),(o=.val v∨o=.pan v)→ρ f (renL (upd g frz) ids args) h=some (o,h') →
   (∀i x,nid≤i→(i,x) ∈ (xL (upd g frz) frz nid ids v h').2→γ1.β i=none∧upd g frz i=none) →
   CK P f vs w fun e w'=>∃ γ',Ext γ g γ' (upd g (xL (upd g frz) frz nid ids v h').2)∧HR γ' (upd g (xL (upd g frz) frz nid ids v h').2) w'∧Fr γ w γ' w' ∧
    ((o=.val v→∃u,e=.returned u∧VR γ' (upd g (xL (upd g frz) frz nid ids v h').2) (xL (upd g frz) frz nid ids v h').1 u) ∧
     (o=.pan v→∃u,e=.panicked [{ v:=u,recovered:=false }]∧VR γ' (upd g (xL (upd g frz) frz nid ids v h').2) (xL (upd g frz) frz nid ids v h').1 u)):=by
  intro o v h' ho hor hfree;have hbs:Base w0 (γ1.sub ids) w:=⟨hb.1,fun b hlt=>⟨(hb.2 b hlt).1,fun k hk=>by
   cases hid:ids[k]? with
   |none=>simp only[G.sub,hid] at hk;cases hk
   |some id=>exact(hb.2 b hlt).2 id (by simpa only [G.sub,hid] using hk)⟩⟩
  refine CK.mono (hρ f _ h o h' hor (γ1.sub ids) w vs (zUd hr1 hs hnod) hbs (zOG hs hv)) fun e w' hpost=>?_
  obtain⟨γ',k1,k2,k3,k4,k7⟩:=hpost;have hend:∀ {γ'':G} {g'':Look} {v':AV},(∀u,VR γ' (nth h') v u→VR γ'' g'' v' u) →
    ((o=.val v→∃u,e=.returned u∧VR γ'' g'' v' u)∧(o=.pan v→∃u,e=.panicked [{ v:=u,recovered:=false }]∧VR γ'' g'' v' u)):=by
   intro γ'' g'' v' hh;refine⟨fun h1=>?_,fun h1=>?_⟩
   ·rw[h1] at k7;cases e with
    |returned u=>exact⟨u,rfl,hh u k7⟩
    |panicked c=>exact False.elim k7
    |outgrown=>exact False.elim k7
   rw[h1] at k7;cases e with
   |returned u=>exact False.elim k7
   |panicked c=>obtain⟨u,rfl,hvr⟩:=k7;exact⟨u,rfl,hh u hvr⟩
   |outgrown=>exact False.elim k7
  by_cases htriv:plain v=true∧ids=[]∧h'=[]
  ·obtain⟨hp,rfl,rfl⟩:=htriv;have himp:xL (upd g frz) frz nid [] v []=(v,[]):=by unfold xL;rw[hp]
   rw[himp];have hkeep:∀b,b<w.heap.size→w'.heap[b]?=w.heap[b]?:=fun b hlt=>k2.keep b hlt fun k hk=>by simp [G.sub] at hk
   exact⟨γ,.refl _ _,hr.of_keep hkeep,⟨k2.size,fun b hlt _=>hkeep b hlt,fun i b hib=>.inr ⟨i,hib⟩,fun _ _ _ hv=>.inl hv,k2.same⟩,hend fun u hu=>zOb hp hu⟩
  have himp:xL (upd g frz) frz nid ids v h'=(back ⟨nth h',ids.length,ids,vO (upd g frz) ids,nid⟩ depth v,frz++vD ⟨nth h',ids.length,ids,vO (upd g frz) ids,nid⟩ 0 h'):=by
   unfold xL;split
   ·rename_i h1;exact absurd ⟨h1,rfl,rfl⟩ htriv
   rfl
  rw[himp] at hfree ⊢;have hlen:=(zDd hs).1;obtain⟨γ'',e2,hr2,f2,hvr⟩:=zW4 (nid:=nid) hr1 hnod hs k1 k2 k3 k4 (fun j hj=>by
   refine hfree (nid+j) _ (by omega) (List.mem_append_right _ ((zCs 0 h' _ _).2 ⟨ids.length+j,h'[ids.length+j],List.getElem?_eq_getElem hj,?_,rfl⟩));simp only[Nat.zero_add,Way.id];have hb:Nat.blt (ids.length+j) ids.length=false:=by
    cases hb:Nat.blt (ids.length+j) ids.length with
    |false=>rfl
    |true=>rw[Nat.blt_eq] at hb;omega
   rw[hb,cond_false];omega)
  rw[← zAs] at e2 hr2 hvr;exact⟨γ'',e1.trans e2,hr2,f1.trans f2,hend fun u hu=>hvr v u hu⟩
 split at hx
 ·cases hx
 ·rename_i v h' hor;cases hx;refine CK.mono (main _ v h' (.inl rfl) hor hfree) fun e w' ⟨γ',h1,h2,h3,h4,_⟩=>?_
  obtain⟨u,rfl,hu⟩:=h4 rfl;exact⟨γ',h1,h2,h3,hu⟩
 rename_i v h' hor;cases hx;refine CK.mono (main _ v h' (.inr rfl) hor hfree) fun e w' ⟨γ',h1,h2,h3,_,h4⟩=>?_
 obtain⟨u,rfl,hu⟩:=h4 rfl;exact⟨γ',h1,h2,h3,u,rfl,hu⟩
def uV(C:Cfg)(w0:World):Prop :=
 C.P.funcs.size≤xD∧∀f args v,C.prim f args=some v→plain v=true→∀(γ:G) (g:Look) (w:World) (vs:List Value),HR γ g w→Base w0 γ w→VRs γ g args vs →
  Calls C.P f vs.toArray w fun e w'=>∃u,e=.returned u∧VR γ g v u∧(w'.os=w.os∧w'.output=w.output)∧w.heap.size≤w'.heap.size∧∀b,b<w.heap.size→w'.heap[b]?=w.heap[b]?
def zNo{γ γ1:G}{g:Look}{w:World}:∀ {args:List AV} {vs:List Value} {l:List Nat},(∀x ∈ args,∀id ∈ yO g x,id ∈ l)→Ext γ g γ1 (upd g (xB g l))→HR γ1 (upd g (xB g l)) w →
  VRs γ g args vs→VRs γ1 (upd g (xB g l)) (args.map (view g)) vs
 |[],vs,l,_,_,_,hv=>by rw[hv.nil_inv];exact .nil
 |x::args,vs,l,hl,e,hr,hv=>by
  obtain⟨v,vs',rfl,hx,hxs⟩:=hv.cases_cons;refine .cons (zGF hr (fun id hid s ver frz es hg=>?_) (hx.mono e)) (zNo (fun y hy=>hl y (List.mem_cons_of_mem _ hy)) e hr hxs);exact(uE g l).upd_eq hg ⟨_,zDM hg (hl x (.head _) id hid)⟩
def wD{α β:Type}{f:α→List β}{y:β}:∀ {l:List α},y ∈ catMap f l↔∃x ∈ l,y ∈ f x
 |[]=>by simp [catMap]
 |a::l=>by simp [catMap,wD (l:=l)]
def zH9 {P : Program} {f : FuncId} (h : yX P f = true) : ∃ fn c, P.funcs[f]? = some fn ∧ fn.body = some c ∧ fn.name ≠ "runtime.NumGoroutine" := by
 unfold yX at h;rw[yP] at h;cases hf:P.funcs.toList[f]? with
 |none=>rw[hf] at h;cases h
 |some fn =>
  rw[hf] at h;simp only[Bool.and_eq_true,bne_iff_ne,ne_eq] at h;obtain⟨c,hc⟩:=Option.isSome_iff_exists.1 h.1;exact⟨fn,c,by simpa using hf,hc,h.2⟩
def zGK{P:Program}{f:FuncId}(h:yX P f=true):f<P.funcs.size:=by
 obtain⟨fn,c,h1,_⟩:=zH9 h;exact(Array.getElem?_eq_some_iff.1 h1).1
def zFP {C:Cfg} {w0:World} {ρ:Oracle} (hρ:xW C.P w0 ρ) (hpr:uV C w0) {γ:G} {g:Look} {w:World} {nid:Nat} {f:FuncId} {args:List AV} {vs:List Value}
  {out:Out} {p:Patch} (hr:HR γ g w) (hb:Base w0 γ w) (hv:VRs γ g args vs) (hx:zAk C ρ g nid f args=some (out,p))
  (hfree:∀i o,nid≤i→(i,o) ∈ p→γ.β i=none∧g i=none):yX C.P f=true∧Calls C.P f vs.toArray w (zNM γ g w p out):=by
 unfold zAk at hx;split at hx
 ·split at hx
  ·rename_i hbody;exact⟨hbody,(zE1 (γ1:=γ) (frz:=[]) hρ hr hb (.refl _ _) hr (.refl _ _) hv hx hfree).calls (zGK hbody)⟩
  cases hx
 obtain⟨γ1,e1,hr1,f1,hβ⟩:=zDx hr (uE g (catMap (yO g) args));have hv1:=zNo (args:=args) (l:=catMap (yO g) args) (fun x hx id hid=>wD.2 ⟨x,hx,hid⟩) e1 hr1 hv;have hb1:=hb.mono f1;split at hx
 ·rename_i v hprim;split at hx
  ·rename_i hp hbody;cases hx;refine⟨hbody,Calls.mono (hpr.2 f _ v hprim hp γ1 _ w vs hr1 hb1 hv1) fun e w' ⟨u,he,hu,hsm,hsz,hk⟩=>?_⟩;subst he;exact⟨γ,.refl _ _,hr.of_keep hk,⟨hsz,fun b hlt _=>hk b hlt,fun i b hib=>.inr ⟨i,hib⟩,fun _ _ _ hv=>.inl hv,hsm⟩,zOb hp hu⟩
  cases hx
 split at hx
 ·rename_i hbody;refine⟨hbody,(zE1 hρ hr hb1 e1 hr1 f1 hv1 hx fun i o hi ho=>?_).calls (zGK hbody)⟩;obtain⟨h1,h2⟩:=hfree i o hi ho;exact⟨by rw[hβ];exact h1,(uE g _).upd_none h2⟩
 cases hx
section
variable {P:Program} {rr:Option Nat} {γ:G} {g:Look} {w:World} {o:Oper} {a:Act} {p:Patch} {next:Act→World→Prop} {Q:Exit→Act→World→Prop}
theorem xI {s:Sem Value} {v:AV} (h:Good γ g w p v (s.run P w))
  (hn:∀u w' γ',Ext γ g γ' (upd g p)→HR γ' (upd g p) w'→Fr γ w γ' w'→VR γ' (upd g p) v u→next (a.put o.dst u) w') :
  o.uponIn (Wd rr) 0 P a next Q ((do pure (Next.value (← s)):Sem Next).run P w):=by
 obtain⟨u,w',γ',hr,e,hh,hv,f⟩:=h;simp only[Sem.run_bind,hr,Result.andThen_ok,Sem.run_pure];exact hn u w' γ' e hh f hv
theorem zHt {s:Sem Unit} (h:zLi γ g w p (s.run P w))
  (hn:∀u w' γ',Ext γ g γ' (upd g p)→HR γ' (upd g p) w'→Fr γ w γ' w'→VR γ' (upd g p) .nov u→next (a.put o.dst u) w') :
  o.uponIn (Wd rr) 0 P a next Q ((do s;pure Next.skip:Sem Next).run P w):=by
 obtain⟨w',γ',hr,e,hh,f⟩:=h;simp only[Sem.run_bind,hr,Result.andThen_ok,Sem.run_pure];exact hn undef w' γ' e hh f .nov
theorem zDK{f:FuncId}{args:Array Value}(h:yX P f=true):(callFunc f args).run P w=.ok (.enter f args) w:=by
 obtain⟨fn,c,h1,h2,h3⟩:=zH9 h;unfold callFunc;simp [h1,h2,h3]
end
section
variable {C:Cfg} {rr:Option Nat} {γ:G} {g:Look} {w:World} {o:Oper} {a:Act} {next:Act→World→Prop} {Q:Exit→Act→World→Prop}
def Goes(γ:G)(g:Look)(w:World)(o:Oper)(a:Act)(next:Act→World→Prop)(Q:Exit→Act→World→Prop)(out:Out)(p:Patch):Prop :=
 ∀u w' γ',Ext γ g γ' (upd g p)→HR γ' (upd g p) w'→Fr γ w γ' w'→match out with
  |.val v=>VR γ' (upd g p) v u→next (a.put o.dst u) w'
  |.pan v=>VR γ' (upd g p) v u→Q (.panic [{ v:=u,recovered:=false }]) a w'
theorem Goes.pure{v:AV}{u:Value}(h:HR γ g w)(hv:VR γ g v u)(hg:Goes γ g w o a next Q (.val v) []):next (a.put o.dst u) w :=
 hg u w γ (.refl _ _) h (.refl _ _) hv
theorem zGR {x:Operand} {T:Env} {out:Out} {p:Patch} (h:HR γ g w) (he:ER γ g T a) (hx:ret (zM T x)=some (out,p))
  (hg:Goes γ g w o a next Q out p):next (a.put o.dst (a.eval x)) w:=by
 unfold ret at hx;cases hx;exact hg.pure h (yC he x)
theorem zMG {f:FuncId} {args:Array Value} {out:Out} {p:Patch} (hb:yX C.P f=true) (hc:Calls C.P f args w (zNM γ g w p out))
  (hg:Goes γ g w o a next Q out p):o.uponIn (Wd rr) 0 C.P a next Q ((callFunc f args).run C.P w):=by
 rw[zDK hb,Oper.uponIn_enter];refine⟨fun h=>by simp [Fence.wide] at h,zHn.2 (Calls.mono hc ?_)⟩;refine fun e w' ⟨γ',h1,h2,h3,h4⟩=>?_
 cases out with
 |val v =>
  cases e with
  |returned u=>exact hg u w' γ' h1 h2 h3 h4
  |panicked c=>exact False.elim h4
  |outgrown=>exact False.elim h4
 |pan v =>
  cases e with
  |returned u=>exact False.elim h4
  |panicked c=>obtain⟨u,rfl,hu⟩:=h4;exact hg u w' γ' h1 h2 h3 hu
  |outgrown=>exact False.elim h4
theorem zEd {b:Builtin} {ts:Array TypeId} {type:TypeId} {cs:Array Bool} {args:Array Value} {s:Sem Value} {v:AV} {p:Patch}
  (hs:builtin b ts type cs args=(do pure (Next.value (← s)):Sem Next)) (h:Good γ g w p v (s.run C.P w)) (hg:Goes γ g w o a next Q (.val v) p) :
  o.uponIn (Wd rr) 0 C.P a next Q ((builtin b ts type cs args).run C.P w):=by
 rw[hs];exact xI h hg
theorem zPp {b:Builtin} {nid:Nat} {ts:Array TypeId} {type:TypeId} {cs:Array Bool} {xs:List AV} {us:List Value} {out:Out} {p:Patch} (h:HR γ g w)
  (hv:VRs γ g xs us) (hx:wB C.P g nid b ts.toList xs=some (out,p)) (hfree:(∃x,(nid,x) ∈ p)→γ.β nid=none∧g nid=none)
  (hg:Goes γ g w o a next Q out p):o.uponIn (Wd rr) 0 C.P a next Q ((builtin b ts type cs us.toArray).run C.P w):=by
 unfold wB at hx;split at hx
 ·rename_i t rest hts;have hout:∃v,out=.val v:=by
   unfold xLen at hx;split at hx
   ·split at hx
    ·unfold ret at hx;cases hx;exact⟨_,rfl⟩
    ·unfold ret at hx;cases hx;exact⟨_,rfl⟩
    ·split at hx
     ·unfold ret at hx;cases hx;exact⟨_,rfl⟩
     cases hx
    cases hx
   cases hx
  obtain⟨v,rfl⟩:=hout;have:=zYb (ty:=type) (ts:=rest) h hv hx;have e:(t::rest).toArray=ts:=by rw[← hts]
  rw[e] at this;exact zEd rfl this hg
 ·rename_i t t' s x hts;obtain⟨us1,us',rfl,h1,h2⟩:=hv.cases_cons;obtain⟨us2,us'',rfl,h3,h4⟩:=h2.cases_cons;have:=h4.nil_inv;subst this;have hout:∃v,out=.val v:=by
   unfold append at hx
   repeat' split at hx
   all_goals first|(cases hx;done)|(cases hx;exact⟨_,rfl⟩)|(unfold ret at hx;cases hx;exact⟨_,rfl⟩)
  obtain⟨v,rfl⟩:=hout;have:=zRl (ty:=type) h (fun hh=>(hfree hh).1) (fun hh=>(hfree hh).2) h1 h3 hx;have e:#[t,t']=ts:=by
                 have:[t,t'].toArray=ts:=by rw[← hts]
                 exact this
  rw[e] at this;exact zEd rfl this hg
 ·rename_i x rest;obtain⟨u,us',rfl,h1,h2⟩:=hv.cases_cons;cases out with
  |pan v=>exact absurd hx zKh
  |val v =>
   obtain⟨hm,rfl⟩:=zA7 hx;exact zEd (s:=us'.foldlM Builtin.max2 u) rfl (zFa false h h1 h2 hm) hg
 ·rename_i x rest;obtain⟨u,us',rfl,h1,h2⟩:=hv.cases_cons;cases out with
  |pan v=>exact absurd hx zKh
  |val v =>
   obtain⟨hm,rfl⟩:=zA7 hx;exact zEd (s:=us'.foldlM Builtin.min2 u) rfl (zFa true h h1 h2 hm) hg
 cases hx
theorem zTl {w0:World} {ρ:Oracle} (hρ:xW C.P w0 ρ) (hpr:uV C w0) {nid:Nat} {T:Env} {c:Call} {out:Out} {p:Patch} (h:HR γ g w) (hb:Base w0 γ w)
  (he:ER γ g T a) (hx:qS C ρ g nid T c=some (out,p)) (hfree:∀i x,nid≤i→(i,x) ∈ p→γ.β i=none∧g i=none)
  (hg:Goes γ g w o a next Q out p) (type:TypeId):o.uponIn (Wd rr) 0 C.P a next Q ((do let d ← resolve a.eval c type;invoke d.target d.args:Sem Next).run C.P w):=by
 have hargs:c.args.map a.eval=(c.args.toList.map a.eval).toArray:=by
  apply Array.ext';rw[Array.toList_map]
 have hvs:=zFv he c.args.toList;unfold qS at hx;unfold resolve;split at hx
 ·rename_i f hf;have hfv:=yC he f;simp only[hf];split at hx
  ·rename_i f' hop;rw[hop] at hfv;have hfe:a.eval f=.func (.func f') #[] #[]:=by
    generalize a.eval f=fv at hfv;cases hfv with
    |t _ _ ht=>cases ht;rfl
   rw[hfe];obtain⟨hbody,hc⟩:=zFP hρ hpr h hb hvs hx hfree;simp only[Deferred.ofValue,Sem.run_bind,Sem.run_pure,Result.andThen_ok,invoke,hargs]
   simpa using zMG hbody hc hg
  ·rename_i f' first captured hop
   rw[hop] at hfv;generalize hfe:a.eval f=fv at hfv;cases hfv with
   |fn _ _ _ us vs hl hl' h1 h2 =>
    have hfirst:VRs γ g first us:=⟨hl,h1⟩
    have hcap:VRs γ g captured vs:=⟨hl',h2⟩
    obtain⟨hbody,hc⟩:=zFP hρ hpr h hb (hfirst.append (hvs.append hcap)) hx hfree;simp only[Deferred.ofValue,Sem.run_bind,Sem.run_pure,Result.andThen_ok,invoke,hargs];have harr:us.toArray++(c.args.toList.map a.eval).toArray++vs.toArray=(us++(c.args.toList.map a.eval++vs)).toArray:=by simp
    rw[harr];exact zMG hbody hc hg
  ·rename_i id hop;rw[hop] at hfv;generalize hfe:a.eval f=fv at hfv;cases hfv with
   |yld _ b hβ hc =>
    simp only[Deferred.ofValue,Sem.run_bind,Sem.run_pure,Result.andThen_ok,invoke,hargs];have hvy:VRs γ g (.yld id::opds T c.args.toList) (.func (.yield b) #[] #[]::c.args.toList.map a.eval):=.cons (.yld id b hβ hc) hvs;have hf':¬ vK<C.P.funcs.size:=by have:=hpr.1;unfold xD at this;unfold vK;omega
    have hck:=zE1 (γ1:=γ) (frz:=[]) hρ h hb (.refl _ _) h (.refl _ _) hvy hx hfree;unfold CK at hck;rw[if_neg hf',if_pos rfl] at hck;obtain⟨l,us,fn,tmps,asg,body,e1,e2,e3⟩:=hck;cases e1;rw[Array.empty_append];rw[e2,Oper.uponIn_round];refine⟨fun h=>by simp [Fence.wide] at h,(e3 rr).mono fun e w' ⟨γ',h1,h2,h3,h4⟩=>?_⟩;cases out with
    |val v =>
     cases e with
     |returned u=>exact hg u w' γ' h1 h2 h3 h4
     |panicked c=>exact False.elim h4
     |outgrown=>exact False.elim h4
    |pan v =>
     cases e with
     |returned u=>exact False.elim h4
     |panicked c=>obtain⟨u,rfl,hu⟩:=h4;exact hg u w' γ' h1 h2 h3 hu
     |outgrown=>exact False.elim h4
  cases hx
 ·rename_i hbt;simp only[hbt];split at hx
  ·rename_i x hop;obtain⟨t,v,rfl,rfl,rfl⟩:=zK0 hx;rw[hop] at hvs;obtain⟨u,us,e1,hu,hus⟩:=hvs.cases_cons;have:=hus.nil_inv;subst this;simp only[Sem.run_bind,Sem.run_pure,Result.andThen_ok,invoke,hargs,e1]
   show o.uponIn (Wd rr) 0 C.P a next Q ((do pure (Next.value (← Instr.panic u)):Sem Next).run C.P w)
   rw[Sem.run_bind,zMY hu];exact hg u w γ (.refl _ _) h (.refl _ _) hu
  cases hx
 ·rename_i b hbp hbt;simp only[hbt];simp only[Sem.run_bind,Sem.run_pure,Result.andThen_ok,invoke,hargs];exact zPp h hvs hx (fun⟨x,hx⟩=>hfree nid x (Nat.le_refl _) hx) hg
 cases hx
theorem zAc{x:Option AV}{out:Out}{p:Patch}(h:retO x=some (out,p)):∃v,out=.val v∧x=some v∧p=[]:=by
 cases out with
 |pan v=>exact absurd h zKh
 |val v=>exact⟨v,rfl,(zA7 h).1,(zA7 h).2⟩
theorem zF2 {w0:World} {ρ:Oracle} (hρ:xW C.P w0 ρ) (hpr:uV C w0) {nid:Nat} {T:Env} {out:Out} {p:Patch} (h:HR γ g w) (hb:Base w0 γ w)
  (he:ER γ g T a) (hx:exec1 C ρ g nid T o=some (out,p)) (hfree:∀i x,nid≤i→(i,x) ∈ p→γ.β i=none∧g i=none)
  (hg:Goes γ g w o a next Q out p):o.wpIn (Wd rr) 0 C.P a w next Q:=by
 have hnid:(∃x,(nid,x) ∈ p)→γ.β nid=none∧g nid=none:=fun⟨x,hx⟩=>hfree nid x (Nat.le_refl _) hx
 refine⟨fun _ _=>trivial,?_⟩;rw[Oper.semAt_eq _ _ _ (fun c hc=>by unfold exec1 at hx;rw[hc] at hx;cases hx)];unfold exec1 at hx;unfold execOp;split at hx
 ·rename_i x hop;simp only[hop,Sem.run_pure,Oper.uponIn_value];exact zGR h he hx hg
 ·rename_i x hop;simp only[hop,Sem.run_pure,Oper.uponIn_value];exact zGR h he hx hg
 ·rename_i c x y hop;simp only[hop];have hc:=yC he c;unfold zAq at hx;split at hx
  ·rename_i hcb;rw[hcb] at hc;have:a.eval c=.bool true:=by
    generalize a.eval c=cv at hc;cases hc with
    |t _ _ ht=>cases ht;rfl
   rw[this];exact zGR h he hx hg
  ·rename_i hcb;rw[hcb] at hc;have:a.eval c=.bool false:=by
    generalize a.eval c=cv at hc;cases hc with
    |t _ _ ht=>cases ht;rfl
   rw[this];exact zGR h he hx hg
  cases hx
 ·rename_i t hop;simp only[hop];have hout:∃v,out=.val v∧∃x,(nid,x) ∈ p:=by
   unfold uY at hx;split at hx
   ·cases hx;exact⟨_,rfl,_,.head _⟩
   cases hx
  obtain⟨v,rfl,hin⟩:=hout;exact xI (zSH h (hnid hin).1 (hnid hin).2 hx) hg
 ·rename_i t x hop;simp only[hop];have hout:∃v,out=.val v∧∃x,(nid,x) ∈ p:=by
   unfold xBox at hx;split at hx
   ·cases hx;exact⟨_,rfl,_,.head _⟩
   cases hx
  obtain⟨v,rfl,hin⟩:=hout;exact xI (zYj h (hnid hin).1 (hnid hin).2 (yC he x) hx) hg
 ·rename_i t parts hop;simp only[hop];obtain⟨v,rfl,hx2,rfl⟩:=zAc hx;refine xI (zVi h ?_ hx2) hg
  simpa using zIG he parts.toList
 ·rename_i t n parts hop;simp only[hop];have hout:∃v,out=.val v∧∃x,(nid,x) ∈ p:=by
   unfold wI at hx
   repeat' split at hx
   all_goals first|(cases hx;done)|(cases hx;exact⟨_,rfl,_,List.mem_append_right _ (.head _)⟩)
  obtain⟨v,rfl,hin⟩:=hout;refine xI (zMx h (hnid hin).1 (hnid hin).2 ?_ hx) hg
  simpa using zIG he parts.toList
 ·rename_i t x hop;simp only[hop];obtain⟨v,rfl,hx2,rfl⟩:=zAc hx;exact xI (zVM h (yC he x) hx2) hg
 ·rename_i t x y hop;simp only[hop];have hout:∃v,out=.val v:=by
   unfold uQ at hx;split at hx
   ·dsimp only at hx;split at hx
    ·split at hx
     ·split at hx
      ·cases hx;exact⟨_,rfl⟩
      cases hx
     cases hx
    cases hx
   cases hx
  obtain⟨v,rfl⟩:=hout;obtain⟨rfl,hgu⟩:=zVo h (yC he x) (yC he y) hx;exact zHt hgu hg
 ·rename_i x hop;simp only[hop];obtain⟨v,rfl,hx2,rfl⟩:=zAc hx;have hxv:=yC he x;generalize a.eval x=u at hxv ⊢;obtain⟨rfl,hr⟩:=zOo (P:=C.P) (w:=w) hxv hx2;have hgo:o.uponIn (Wd rr) 0 C.P a next Q (.ok (.value u) w):=by rw[Oper.uponIn_value];exact hg.pure h hxv
  rw[← hr] at hgo;exact hgo
 ·rename_i op t x y ty hop;simp only[hop];obtain⟨v,rfl,hx2,rfl⟩:=zAc hx;exact xI (zRa x y h (yC he x) (yC he y) hx2) hg
 ·rename_i op t x hop;simp only[hop];obtain⟨v,rfl,hx2,rfl⟩:=zAc hx;exact xI (zWx h (yC he x) hx2) hg
 ·rename_i s d x hop;simp only[hop];have hout:∃v,out=.val v:=by
   unfold convert at hx
   repeat' split at hx
   all_goals first|(cases hx;done)|(cases hx;exact⟨_,rfl⟩)|(unfold ret at hx;cases hx;exact⟨_,rfl⟩)
  obtain⟨v,rfl⟩:=hout;exact xI (zPO h (fun hh=>(hnid hh).1) (fun hh=>(hnid hh).2) (yC he x) hx) hg
 ·rename_i f first captured hop
  simp only[hop];unfold ret at hx;cases hx;have h1:=zFv he first.toList
  have h2:=zFv he captured.toList;have:VR γ g (.fn f (opds T first.toList) (opds T captured.toList)) (.func (.func f) (first.map a.eval) (captured.map a.eval)):=by
   have e1:first.map a.eval=(first.toList.map a.eval).toArray:=by apply Array.ext';rw[Array.toList_map]
   have e2:captured.map a.eval=(captured.toList.map a.eval).toArray:=by apply Array.ext';rw[Array.toList_map]
   rw[e1,e2];exact .fn f _ _ _ _ h1.1 h2.1 h1.2 h2.2
  refine xI (s:=Instr.makeFunc (.func f) (first.map a.eval) (captured.map a.eval)) (v:=.fn f (opds T first.toList) (opds T captured.toList)) ?_ hg;exact .pure h this
 ·rename_i t l c hop;simp only[hop];have hout:∃v,out=.val v∧∃x,(nid,x) ∈ p:=by
   unfold zAt at hx
   repeat' split at hx
   all_goals first|(cases hx;done)|(cases hx;exact⟨_,rfl,_,.head _⟩)
  obtain⟨v,rfl,hin⟩:=hout;exact xI (zNB h (hnid hin).1 (hnid hin).2 (yC he l) (yC he c) hx) hg
 ·rename_i t x lo hi mx hop;simp only[hop];unfold zBR at hx;split at hx
  ·rename_i lo' hi' mx' h1 h2 h3;obtain⟨v,rfl,hx2,rfl⟩:=zAc hx;exact xI (zUk h (yC he x) (zJP he h1) (zJP he h2) (zJP he h3) hx2) hg
  cases hx
 ·rename_i s x f hop;simp only[hop];have hout:∃v,out=.val v:=by
   unfold zP at hx
   repeat' split at hx
   all_goals first|(cases hx;done)|(obtain⟨v,h1,_⟩:=zAc hx;exact⟨v,h1⟩)
  obtain⟨v,rfl⟩:=hout;exact xI (zNC h (yC he x) hx) hg
 ·rename_i s x f hop;simp only[hop];have hout:∃v,out=.val v:=by
   unfold yB at hx
   repeat' split at hx
   all_goals first|(cases hx;done)|(obtain⟨v,h1,_⟩:=zAc hx;exact⟨v,h1⟩)
  obtain⟨v,rfl⟩:=hout;exact xI (zTq h (yC he x) hx) hg
 ·rename_i t x i hop;simp only[hop];have hout:∃v,out=.val v:=by
   unfold xM at hx
   repeat' split at hx
   all_goals first|(cases hx;done)|(obtain⟨v,h1,_⟩:=zAc hx;exact⟨v,h1⟩)
  obtain⟨v,rfl⟩:=hout;exact xI (zND h (yC he x) (yC he i) hx) hg
 ·rename_i t x i hop;simp only[hop];have hout:∃v,out=.val v:=by
   unfold uZ at hx
   repeat' split at hx
   all_goals first|(cases hx;done)|(obtain⟨v,h1,_⟩:=zAc hx;exact⟨v,h1⟩)
  obtain⟨v,rfl⟩:=hout;exact xI (zTS h (yC he x) (yC he i) hx) hg
 ·rename_i t x hop;simp only[hop];have hout:∃v,out=.val v∧∃x,(nid,x) ∈ p:=by
   unfold zIu at hx
   repeat' split at hx
   all_goals first|(cases hx;done)|(cases hx;exact⟨_,rfl,_,.head _⟩)
  obtain⟨v,rfl,hin⟩:=hout;exact xI (zSO h (hnid hin).1 (hnid hin).2 (yC he x) hx) hg
 ·rename_i it hop;simp only[hop];have hout:∃v,out=.val v:=by
   unfold zGL at hx
   repeat' split at hx
   all_goals first|(cases hx;done)|(cases hx;exact⟨_,rfl⟩)|(unfold ret at hx;cases hx;exact⟨_,rfl⟩)
  obtain⟨v,rfl⟩:=hout;exact xI (zWw h (yC he it) hx) hg
 ·rename_i t i hop;simp only[hop];have hout:∃v,out=.val v:=by
   unfold wK at hx
   repeat' split at hx
   all_goals first|(cases hx;done)|(obtain⟨v,h1,_⟩:=zAc hx;exact⟨v,h1⟩)
  obtain⟨v,rfl⟩:=hout;exact xI (zPD h (yC he t) hx) hg
 ·rename_i c hop;simp only[hop];exact zTl hρ hpr h hb he hx hfree hg o.type
 ·rename_i t x hop;simp only[hop];have hout:∃v,out=.val v:=by
   unfold zB5 at hx
   repeat' split at hx
   all_goals first|(cases hx;done)|(unfold ret at hx;cases hx;exact⟨_,rfl⟩)
  obtain⟨v,rfl⟩:=hout;exact xI (zUJ h (yC he x) hx) hg
 ·rename_i x xt t ok hop;simp only[hop];have hout:∃v,out=.val v:=by
   unfold jT at hx
   repeat' split at hx
   all_goals first|(cases hx;done)|(unfold ret at hx;cases hx;exact⟨_,rfl⟩)
  obtain⟨v,rfl⟩:=hout;exact xI (zSa h (yC he x) hx) hg
 ·rename_i x hop;simp only[hop];obtain⟨t,v,e1,rfl,rfl⟩:=zK0 hx;have hu:=yC he x;rw[e1] at hu hg
  show o.uponIn (Wd rr) 0 C.P a next Q ((do pure (Next.value (← Instr.panic (a.eval x))):Sem Next).run C.P w)
  rw[Sem.run_bind,zMY hu];exact hg _ w γ (.refl _ _) h (.refl _ _) hu
 ·rename_i t hop;simp only[hop];cases hx;exact xI (zPF t h (hnid ⟨_,.head _⟩).1 (hnid ⟨_,.head _⟩).2) hg
 ·rename_i t x i ok hop;simp only[hop];have hout:∃v,out=.val v:=by
   unfold kQ at hx
   repeat' split at hx
   all_goals first|(cases hx;done)|(unfold ret at hx;cases hx;exact⟨_,rfl⟩)
  obtain⟨v,rfl⟩:=hout;exact xI (zSg h (yC he x) (yC he i) hx) hg
 ·rename_i t m k y hop;simp only[hop];have hout:∃v,out=.val v:=by
   unfold qM at hx
   repeat' split at hx
   all_goals first|(cases hx;done)|(cases hx;exact⟨_,rfl⟩)
  obtain⟨v,rfl⟩:=hout;obtain⟨rfl,hgu⟩:=zLc h (yC he m) (yC he k) (yC he y) hx;exact zHt hgu hg
 ·rename_i t m k y hop;simp only[hop];have hout:∃v,out=.val v:=by
   unfold qM at hx
   repeat' split at hx
   all_goals first|(cases hx;done)|(cases hx;exact⟨_,rfl⟩)
  obtain⟨v,rfl⟩:=hout;obtain⟨rfl,hgu⟩:=zLc h (yC he m) (yC he k) (yC he y) hx;exact zHt hgu hg
 cases hx
end
def Same(g g':Look):Prop:=(∀id o,g id=some o→g' id=some o)∧∀id,g id=none→g' id=none∨g' id=some .dead
theorem Same.refl(g:Look):Same g g:=⟨fun _ _ h=>h,fun _ h=>.inl h⟩
theorem Same.cur{g g':Look}(h:Same g g')(id:Nat):Ab.cur g' id=Ab.cur g id:=by
 unfold Ab.cur;cases hg:g id with
 |some o=>rw[h.1 id o hg]
 |none=>rcases h.2 id hg with h1|h1<;>rw[h1]
theorem Same.dims{g g':Look}(h:Same g g')(id:Nat):Ab.dims g' id=Ab.dims g id:=by
 unfold Ab.dims;cases hg:g id with
 |some o=>rw[h.1 id o hg]
 |none=>rcases h.2 id hg with h1|h1<;>rw[h1]
theorem Same.ext{g g':Look}(h:Same g g')(γ:G):Ext γ g γ g' :=
 ⟨.refl _,fun id b hb hc=>⟨hb,by rw[h.cur];exact hc⟩,fun id c hc=>⟨c,by rw[h.cur];exact hc,Nat.le_refl _,fun _=>⟨rfl,rfl,h.dims id⟩⟩⟩
theorem HR.same{γ:G}{g g':Look}{w:World}(hr:HR γ g w)(h:Same g g'):HR γ g' w:=by
 refine⟨fun id b hb=>?_,hr.inj,hr.imm⟩;obtain⟨o,ho,hor⟩:=hr.obj id b hb;exact⟨o,h.1 id o ho,hor.mono (h.ext γ) rfl rfl (fun _=>rfl)⟩
def zFq:∀(h:Heap) (n:Nat) (o:Obj) (i:Nat),nth (put1 h n o) i=if i=n then some o else match nth h i with
  |some x=>some x
  |none=>if i<n then some .dead else none
 |[],0,o,i=>by
  unfold put1;cases i with
  |zero=>simp [nth]
  |succ i=>simp [nth]
 |[],n+1,o,i=>by
  unfold put1;cases i with
  |zero=>simp [nth]
  |succ i =>
   have:=zFq [] n o i;simp only[nth] at this ⊢;rw[this];simp
 |a::h,0,o,i=>by
  unfold put1;cases i with
  |zero=>simp [nth]
  |succ i=>simp only[nth];simp;cases nth h i<;>rfl
 |a::h,n+1,o,i=>by
  unfold put1;cases i with
  |zero=>simp [nth]
  |succ i =>
   have:=zFq h n o i;simp only[nth] at this ⊢;rw[this];simp
def kI:∀ {p:Patch} {g:Look} {h:Heap},Same g (nth h)→Same (upd g p) (nth (patch h p))
 |[],g,h,hs=>hs
 |(id,o)::p,g,h,hs=>by
  unfold upd patch;refine kI ⟨fun i x hx=>?_,fun i hx=>?_⟩
  ·dsimp only at hx;rw[zFq];cases hb:Nat.beq i id with
   |true=>have:=Nat.eq_of_beq_eq_true hb;rw[hb] at hx;simp only[this,if_true];exact hx
   |false =>
    have:=Nat.ne_of_beq_eq_false hb;rw[hb] at hx;simp only[this,if_false];rw[hs.1 i x hx]
  dsimp only at hx;rw[zFq];cases hb:Nat.beq i id with
  |true=>rw[hb] at hx;cases hx
  |false =>
   have:=Nat.ne_of_beq_eq_false hb;rw[hb] at hx;simp only[this,if_false];rcases hs.2 i hx with h1|h1
   ·rw[h1];by_cases hlt:i<id<;>simp [hlt]
   rw[h1];simp
inductive DOne (γ:G) (g:Look) (w:World) (e:Nat):AV→Deferred→Prop
 |mark (D:Nat) (h1:e≤D) (h2:w.heap[D]?=some (.deferred (some []))) (h3:∀id,γ.β id≠some D):DOne γ g w e .nov { target:=.collected D,args:=#[] }
 |call (v:AV) (d:Deferred) (fv:Fn) (cap:Array Value) (hne:v≠.nov) (h1:d.target=.fn fv cap) (h2:VR γ g v (.func fv d.args cap)):DOne γ g w e v d
def DRel(γ:G)(g:Look)(w:World)(e:Nat):List AV→List Deferred→Prop
 |[],[]=>True
 |v::vs,d::ds=>DOne γ g w e v d∧(∀D,d.target=.collected D→∀d' ∈ ds,d'.target≠.collected D)∧DRel γ g w e vs ds
 |_,_=>False
def zIP{w:World}{b:Nat}{o:Go.Obj}(h:w.heap[b]?=some o):b<w.heap.size:=(Array.getElem?_eq_some_iff.1 h).1
theorem DOne.mono{γ γ':G}{g g':Look}{w w':World}{e:Nat}(x:Ext γ g γ' g')(f:Fr γ w γ' w'){v:AV}{d:Deferred}(h:DOne γ g w e v d):DOne γ' g' w' e v d:=by
 cases h with
 |mark D h1 h2 h3 =>
  refine .mark D h1 (by rw[f.keep D (zIP h2) h3];exact h2) fun id hid=>?_
  rcases f.rng id D hid with h5|⟨i,h5⟩
  ·have:=zIP h2;omega
  exact h3 i h5
 |call v d fv cap hne h1 h2=>exact .call v d fv cap hne h1 (h2.mono x)
theorem DRel.mono{γ γ':G}{g g':Look}{w w':World}{e:Nat}(x:Ext γ g γ' g')(f:Fr γ w γ' w'):∀ {vs:List AV} {ds:List Deferred},DRel γ g w e vs ds→DRel γ' g' w' e vs ds
 |[],[],_=>trivial
 |_::_,_::_,h=>⟨h.1.mono x f,h.2.1,DRel.mono x f h.2.2⟩
 |[],_::_,h=>h.elim
 |_::_,[],h=>h.elim
theorem DRel.lt{γ:G}{g:Look}{w:World}{e:Nat}:∀ {vs:List AV} {ds:List Deferred},DRel γ g w e vs ds→∀d ∈ ds,∀D,d.target=.collected D→D<w.heap.size
 |[],[],_,d,hd,_,_=>by cases hd
 |v::vs,d0::ds,h,d,hd,D,ht=>by
  rcases List.mem_cons.1 hd with rfl|hd
  ·cases h.1 with
   |mark D' h1 h2 h3=>cases ht;exact zIP h2
   |call v d fv cap hne h1 h2=>rw[h1] at ht;cases ht
  exact DRel.lt h.2.2 d hd D ht
 |[],_::_,h,_,_,_,_=>h.elim
 |_::_,[],h,_,_,_,_=>h.elim
def DR(γ:G)(g:Look)(w:World)(e:Nat)(v:AV)(ds:List Deferred):Prop :=
 match v with
 |.unk|.rnd=>ds=[]
 |.dfr vs=>DRel γ g w e vs ds
 |_=>False
theorem DR.mono{γ γ':G}{g g':Look}{w w':World}{e:Nat}(x:Ext γ g γ' g')(f:Fr γ w γ' w'){v:AV}{ds:List Deferred}(h:DR γ g w e v ds):DR γ' g' w' e v ds:=by
 unfold DR at *;split
 ·exact h
 ·exact h
 ·exact DRel.mono x f h
 rename_i h1 h2 h3;split at h
 ·exact(h1 rfl).elim
 ·exact(h2 rfl).elim
 ·exact(h3 _ rfl).elim
 exact h
theorem DR.lt{γ:G}{g:Look}{w:World}{e:Nat}{v:AV}{ds:List Deferred}(h:DR γ g w e v ds):∀d ∈ ds,∀D,d.target=.collected D→D<w.heap.size:=by
 unfold DR at h;split at h
 ·intro d hd;rw[show ds=[] from h] at hd;cases hd
 ·intro d hd;rw[show ds=[] from h] at hd;cases hd
 ·exact h.lt
 exact h.elim
structure Inv (w0:World) (rr:Option Nat) (e k:Nat) (γ:G) (h:Heap) (T:Env) (a:Act) (w:World):Prop where
 hr:HR γ (nth h) w
 base:Base w0 γ w
 er:ER γ (nth h) T a
 sz:k≤a.tmps.size
 nd:DR γ (nth h) w e (get T k) a.defers
 ew:e≤w.heap.size
 ro:rr.isSome=true→get T k=.rnd
def zD6{T:Env}{dst:Option Tmp}{v:AV}{k:Nat}(hd:∀d,dst=some d→d<k):get (putT T dst v) k=get T k:=by
 cases dst with
 |none=>rfl
 |some d =>
  have hlt:d<k:=hd d rfl;simp only[putT,get];cases hb:Nat.beq d k with
  |false=>rfl
  |true=>exact absurd (Nat.eq_of_beq_eq_true hb) (Nat.ne_of_lt hlt)
theorem HR.free{γ:G}{h:Heap}{w:World}(hr:HR γ (nth h) w){i:Nat}(hi:h.length≤i):γ.β i=none∧nth h i=none:=by
 have h1:nth h i=none:=by rw[yP];exact List.getElem?_eq_none hi
 refine⟨?_,h1⟩;cases hb:γ.β i with
 |none=>rfl
 |some b=>obtain⟨o,ho,_⟩:=hr.obj i b hb;rw[h1] at ho;cases ho
theorem ER.put {γ:G} {g:Look} {T:Env} {a:Act} {dst:Option Tmp} {v:AV} {u:Value} (h:ER γ g T a) (hv:VR γ g v u) (hd:∀d,dst=some d→d<a.tmps.size) :
  ER γ g (putT T dst v) (a.put dst u):=by
 cases dst with
 |none=>exact h
 |some d =>
  intro t;have hlt:=hd d rfl;unfold putT;simp only[get,Act.put];cases hb:Nat.beq d t with
  |true =>
   have:=Nat.eq_of_beq_eq_true hb;subst this;simp only;rw[Array.getD_eq_getD_getElem?,Array.getElem?_setIfInBounds_self_of_lt hlt];exact hv
  |false =>
   have:=Nat.ne_of_beq_eq_false hb;simp only;rw[Array.getD_eq_getD_getElem?,Array.getElem?_setIfInBounds_ne this,← Array.getD_eq_getD_getElem?];exact h t
theorem ER.mono{γ γ':G}{g g':Look}{T:Env}{a:Act}(e:Ext γ g γ' g')(h:ER γ g T a):ER γ' g' T a:=fun t=>(h t).mono e
def zHq(a:Act)(dst:Option Tmp)(u:Value):(a.put dst u).tmps.size=a.tmps.size:=by
 cases dst<;>simp [Act.put]
def zEZ(a:Act)(dst:Option Tmp)(u:Value):(a.put dst u).defers=a.defers:=by
 cases dst<;>rfl
def zDa {γ:G} {g:Look} {T:Env} {a:Act} {ops:Array Oper} {o:Oper} {b:Bool} (h:ER γ g T a) (hw:wanted ops.toList T o=some b) :
  Region.wanted o (yielded ops a.tmps)=b:=by
 unfold wanted at hw;unfold Region.wanted;split at hw
 ·rename_i hg;cases hw;rw[hg]
 rename_i j want hg;rw[hg];simp only;rw[yP] at hw;split at hw
 ·rename_i oj hoj;have hoj':ops[j]?=some oj:=by simpa using hoj
  split at hw
  ·rename_i d hd;have hv:=h d;unfold yielded;simp only[hoj',hd,Option.bind_some];split at hw
   ·rename_i b' hgt;rw[hgt] at hv;rw[Array.getD_eq_getD_getElem?] at hv;have:a.tmps[d]?=some (.bool b'):=by
     cases hx:a.tmps[d]? with
     |none=>rw[hx] at hv;cases hv with
      |t _ _ ht=>exact nomatch ht
     |some x=>rw[hx] at hv;cases hv with
      |t _ _ ht=>cases ht;rfl
    rw[this];cases hw;cases b'<;>cases want<;>rfl
   ·rename_i hgt;cases hw;rw[hgt] at hv;rw[Array.getD_eq_getD_getElem?] at hv;cases hx:a.tmps[d]? with
    |none=>rfl
    |some x =>
     rw[hx] at hv;cases hv
     rfl
   cases hw
  cases hw
 cases hw
def zEY{k:Nat}{o:Oper}{os:List Oper}(h:qF k (o::os)=true):(∀d,o.dst=some d→d<k)∧qF k os=true:=by
 unfold qF at h;split at h
 ·rename_i d hd;split at h
  ·rename_i hb;refine⟨fun d' hd'=>?_,h⟩;rw[hd] at hd';cases hd';rw[Nat.blt_eq] at hb;exact hb
  cases h
 rename_i hd;exact⟨fun d' hd'=>(by rw[hd] at hd';cases hd'),h⟩
theorem Inv.step {w0:World} {rr:Option Nat} {e k:Nat} {γ γ':G} {h:Heap} {T:Env} {a:Act} {w w':World} {o:Oper} {v:AV} {u:Value} {p:Patch} (hi:Inv w0 rr e k γ h T a w)
  (x:Ext γ (nth h) γ' (upd (nth h) p)) (hh:HR γ' (upd (nth h) p) w') (f:Fr γ w γ' w') (hv:VR γ' (upd (nth h) p) v u) (hd:∀d,o.dst=some d→d<k) :
  Inv w0 rr e k γ' (patch h p) (putT T o.dst v) (a.put o.dst u) w'∧Ext γ (nth h) γ' (nth (patch h p)):=by
 have hs:=kI (p:=p) (Same.refl (nth h));have e':=x.trans (hs.ext γ');refine⟨⟨hh.same hs,hi.base.mono f,(hi.er.mono e').put (hv.mono (hs.ext γ')) fun d hd'=>Nat.lt_of_lt_of_le (hd d hd') hi.sz,?_,?_,Nat.le_trans hi.ew f.size,fun hh=>by rw[zD6 hd];exact hi.ro hh⟩,e'⟩
 ·rw[zHq];exact hi.sz
 rw[zEZ,zD6 hd];exact hi.nd.mono e' f
theorem Inv.skip {w0:World} {rr:Option Nat} {e k:Nat} {γ:G} {h:Heap} {T:Env} {a:Act} {w:World} {o:Oper} (hi:Inv w0 rr e k γ h T a w) (hd:∀d,o.dst=some d→d<k) :
  Inv w0 rr e k γ h (putT T o.dst .nov) (a.put o.dst undef) w :=
 ⟨hi.hr,hi.base,hi.er.put .nov fun d hd'=>Nat.lt_of_lt_of_le (hd d hd') hi.sz,by rw[zHq];exact hi.sz,by rw[zEZ,zD6 hd];exact hi.nd,hi.ew,fun hh=>by rw[zD6 hd];exact hi.ro hh⟩
theorem Inv.push {w0:World} {rr:Option Nat} {e k:Nat} {γ:G} {h:Heap} {T T':Env} {a:Act} {w:World} {v:AV} {d:Deferred} (hi:Inv w0 rr e k γ h T a w) (hp:jE k v T=some T')
  (hd:DOne γ (nth h) w e v d) (hdist:∀D,d.target=.collected D→∀d' ∈ a.defers,d'.target≠.collected D):Inv w0 rr e k γ h T' { a with defers:=d::a.defers } w:=by
 unfold jE at hp;split at hp
 ·rename_i ds hds;cases hp;have hnd:=hi.nd;refine⟨hi.hr,hi.base,fun t=>?_,hi.sz,?_,hi.ew,fun hh=>by unfold yI at hds;rw[hi.ro hh] at hds;cases hds⟩
  ·simp only[get];cases hb:Nat.beq k t with
   |true=>exact .dfr _ _
   |false=>exact hi.er t
  simp only[get,Nat.beq_refl];unfold yI at hds;have:DRel γ (nth h) w e ds a.defers:=by
   split at hds
   ·rename_i hg;cases hds;rw[hg] at hnd;have:a.defers=[]:=hnd;rw[this];trivial
   ·rename_i ds' hg;cases hds;rw[hg] at hnd;exact hnd
   cases hds
  exact⟨hd,hdist,this⟩
 cases hp
def zOD {P:Program} {γ:G} {g:Look} {w:World} {e:Nat} {T:Env} {a:Act} {c:Call} {v:AV} (he:ER γ g T a) (h:deferred T c=some v) (type:TypeId) :
  ∃d,(resolve a.eval c type).run P w=.ok d w∧DOne γ g w e v d∧∀D,d.target≠.collected D:=by
 have hargs:c.args.map a.eval=(c.args.toList.map a.eval).toArray:=by
  apply Array.ext';rw[Array.toList_map]
 have hvs:=zFv he c.args.toList;unfold deferred at h;unfold resolve;split at h
 ·rename_i f hf;have hfv:=yC he f;simp only[hf];split at h
  ·rename_i f' hop;rw[hop] at hfv;cases h;have hfe:a.eval f=.func (.func f') #[] #[]:=by
    generalize a.eval f=fv at hfv;cases hfv with
    |t _ _ ht=>cases ht;rfl
   rw[hfe];refine⟨{ target:=.fn (.func f') #[],args:=#[]++c.args.map a.eval },by simp only[Deferred.ofValue,Sem.run_pure],.call _ _ (.func f') #[] (by simp) rfl ?_,fun D hh=>by cases hh⟩;rw[hargs,Array.empty_append];exact .fn f' _ [] _ [] hvs.1 rfl hvs.2 (fun i c v hc=>by simp at hc)
  ·rename_i f' first captured hop
   rw[hop] at hfv;cases h;generalize hfe:a.eval f=fv at hfv;cases hfv with
   |fn _ _ _ us vs hl hl' h1 h2 =>
    have hfirst:VRs γ g first us:=⟨hl,h1⟩
    refine⟨{ target:=.fn (.func f') vs.toArray,args:=us.toArray++c.args.map a.eval },by simp only[Deferred.ofValue,Sem.run_pure],.call _ _ (.func f') vs.toArray (by simp) rfl ?_,fun D hh=>by cases hh⟩;have:=hfirst.append hvs;have e2:us.toArray++c.args.map a.eval=(us++c.args.toList.map a.eval).toArray:=by rw[hargs];simp
    show VR γ g _ (.func (.func f') (us.toArray++c.args.map a.eval) vs.toArray)
    rw[e2];exact .fn f' _ _ _ _ this.1 hl' this.2 h2
  cases h
 cases h
def zDk {C:Cfg} {w0:World} {rr:Option Nat} {ρ:Oracle} (hρ:xW C.P w0 ρ) (hpr:uV C w0) {ops:Array Oper} {e k:Nat} {Q:Exit→Act→World→Prop} :
  ∀(rest:List Oper) (i:Nat),ops.toList.drop i=rest→∀(T:Env) (h:Heap) (γ:G) (a:Act) (w:World) (r:Option AV) (T':Env) (h':Heap),
   xH C ρ k ops.toList rest T h=some (r,T',h')→Inv w0 rr e k γ h T a w→qF k rest=true →
   (∀ γ' a' w',r=none→Inv w0 rr e k γ' h' T' a' w'→Fr γ w γ' w'→Ext γ (nth h) γ' (nth h')→Q .normal a' w') →
   (∀ γ' a' w' v u,r=some v→Inv w0 rr e k γ' h' T' a' w'→Fr γ w γ' w'→Ext γ (nth h) γ' (nth h')→VR γ' (nth h') v u→Q (.panic [{ v:=u,recovered:=false }]) a' w') →
   wpOpsIn (Wd rr) 0 C.P ops Q (List.range' i rest.length) a w
 |[],i,hi,T,h,γ,a,w,r,T',h',hx,hinv,hd,hpost,_=>by
  simp only[xH,Option.some.injEq,Prod.mk.injEq] at hx;obtain⟨rfl,rfl,rfl⟩:=hx;simp only[List.length_nil,List.range'_zero,wpOpsIn];exact hpost γ a w rfl hinv (.refl _ _) (.refl _ _)
 |o::rest,i,hi,T,h,γ,a,w,r,T',h',hx,hinv,hd,hpost,hpan=>by
  obtain⟨hd1,hd2⟩:=zEY hd;have hoi:ops[i]?=some o:=by
   have:(ops.toList.drop i)[0]?=some o:=by rw[hi];rfl
   rw[List.getElem?_drop] at this
   simpa using this
  have hrest:ops.toList.drop (i+1)=rest:=by
   rw[← List.tail_drop,hi];rfl
  simp only[List.length_cons,List.range'_succ,wpOpsIn,hoi];unfold xH at hx;split at hx
  ·cases hx
  ·rename_i hw;rw[zDa hinv.er hw];simp only[Bool.false_eq_true,if_false];exact⟨fun _ _=>trivial,zDk hρ hpr rest (i+1) hrest _ h γ _ w r T' h' hx (hinv.skip hd1) hd2 hpost hpan⟩
  rename_i hw;rw[zDa hinv.er hw];simp only[if_true];split at hx
  ·rename_i c hc;split at hx
   ·rename_i d hdf;split at hx
    ·rename_i T1 hpush
     -- a call is deferred
     have hop:o.op=.defer c:=by
      unfold zAG at hc;split at hc
      ·rename_i c' hop;cases hc;exact hop
      cases hc
     have hnone:rr=none:=by
      cases hrn:rr with
      |none=>rfl
      |some l =>
       have h1:rr.isSome=true:=by rw[hrn];rfl
       unfold jE yI at hpush;rw[hinv.ro h1] at hpush;cases hpush
     obtain⟨dd,hrun,hdr,hnc⟩:=zOD (P:=C.P) (w:=w) (e:=e) hinv.er hdf o.type;have hinv1:=hinv.push hpush hdr (fun D hD=>absurd hD (hnc D));refine⟨fun _ _=>trivial,?_⟩;have hsem:o.semAt (Wd rr).round a.eval=(do pure (Next.defer (← resolve a.eval c o.type)):Sem Next):=by
      show o.semAt rr a.eval=_
      rw[hnone,Oper.semAt_none];unfold execOp;simp only[hop]
     rw[hsem];simp only[Sem.run_bind,hrun,Result.andThen_ok,Sem.run_pure,Oper.uponIn_defer];exact zDk hρ hpr rest (i+1) hrest _ h γ _ w r T' h' hx (hinv1.skip hd1) hd2 hpost hpan
    cases hx
   cases hx
  split at hx
  ·cases hx
  ·rename_i v p he;simp only[Option.some.injEq,Prod.mk.injEq] at hx;obtain⟨rfl,rfl,rfl⟩:=hx;refine zF2 hρ hpr hinv.hr hinv.base hinv.er he (fun i x hi _=>hinv.hr.free hi) fun u w' γ' x hh f hv=>?_
   have hs:=kI (p:=p) (Same.refl (nth h));have e':=x.trans (hs.ext γ');exact hpan γ' a w' v u rfl ⟨hh.same hs,hinv.base.mono f,hinv.er.mono e',hinv.sz,hinv.nd.mono e' f,Nat.le_trans hinv.ew f.size,hinv.ro⟩ f e' (hv.mono (hs.ext γ'))
  rename_i v p he;refine zF2 hρ hpr hinv.hr hinv.base hinv.er he (fun i x hi _=>hinv.hr.free hi) fun u w' γ' x hh f hv=>?_
  obtain⟨hinv',e'⟩:=hinv.step (o:=o) x hh f hv hd1;refine zDk hρ hpr rest (i+1) hrest _ _ γ' _ w' r T' h' hx hinv' hd2 (fun γ'' a'' w'' h0 h1 h2 h3=>hpost γ'' a'' w'' h0 h1 (f.trans h2) (e'.trans h3))
   (fun γ'' a'' w'' v' u' h0 h1 h2 h3 h4=>hpan γ'' a'' w'' v' u' h0 h1 (f.trans h2) (e'.trans h3) h4)
def zMl:∀(n:Nat) (acc:List Nat),upto n acc=List.range n++acc
 |0,acc=>by simp [upto]
 |n+1,acc=>by rw[upto,zMl n,List.range_succ];simp
def zDG{g:Look}:∀(n:Nat) (todo acc r:List Nat),reach g n todo acc=some r→∃t,r=acc++t
 |0,_,_,_,h=>by simp [reach] at h
 |_+1,[],acc,r,h=>by simp [reach] at h;exact⟨[],by simp [h]⟩
 |n+1,id::todo,acc,r,h=>by
  unfold reach at h;split at h
  ·exact zDG n _ _ _ h
  split at h
  ·obtain⟨t,ht⟩:=zDG n _ _ _ h;exact⟨id::t,by rw[ht];simp⟩
  cases h
theorem Base.sub{w0 w:World}{γ:G}(hb:Base w0 γ w)(ids:List Nat):Base w0 (γ.sub ids) w :=
 ⟨hb.1,fun b hlt=>⟨(hb.2 b hlt).1,fun k hk=>by
  cases hid:ids[k]? with
  |none=>simp only[G.sub,hid] at hk;cases hk
  |some id=>exact(hb.2 b hlt).2 id (by simpa only [G.sub,hid] using hk)⟩⟩
theorem Fr.sub(γ:G)(w:World)(ids:List Nat):Fr γ w (γ.sub ids) w :=
 ⟨Nat.le_refl _,fun _ _ _=>rfl,fun k b hk=>by
  cases hid:ids[k]? with
  |none=>simp only[G.sub,hid] at hk;cases hk
  |some id=>exact .inr ⟨id,by simpa only [G.sub,hid] using hk⟩,fun _ _ _ h=>.inl h,rfl,rfl⟩
def zED {γ:G} {h h':Heap} {w:World} {m:Nat} {xs ys:List AV} (hr:HR γ (nth h) w) (hx:canon h m xs=some (ys,h')) :
  ∃ids,HR (γ.sub ids) (nth h') w∧Keep m γ (nth h) (γ.sub ids) (nth h')∧ys=renL (nth h) ids xs∧∀d x u,VR γ (nth h) x u→VR (γ.sub ids) (nth h') (ren (nth h) ids d x) u:=by
 unfold canon at hx;dsimp only at hx;split at hx
 ·cases hx
 rename_i ids hids;have hnod:=zEb _ _ _ _ hids (by rw[zMl];simp [List.nodup_range]);obtain⟨t,ht⟩:=zDG _ _ _ _ hids;rw[zMl,List.append_nil] at ht;split at hx
 ·cases hx
 rename_i h1 hs;cases hx;have hget:∀k,k<m→ids[k]?=some k:=fun k hk=>by
  rw[ht,List.getElem?_append_left (by simpa using hk)];simp [hk]
 obtain⟨_,hspec⟩:=zDd hs;refine⟨ids,zUd hr hs hnod,⟨fun id b hm hb hc=>?_,fun id hm hc=>?_⟩,rfl,fun d x u hv=>zCp hs d hv⟩
 ·have hi:=hget id hm;obtain⟨o,ho,hh⟩:=hspec _ _ hi;exact⟨by simp only[G.sub,hi];exact hb,(zAw ho (by rw[yP];exact hh:nth h' id=_)).1 hc⟩
 have hi:=hget id hm;obtain⟨o,ho,hh⟩:=hspec _ _ hi;cases hcc:cur (nth h) id with
 |none=>exact absurd hcc hc
 |some c=>rw[(zAw ho (by rw[yP];exact hh:nth h' id=_)).2.1 c hcc];simp
def zJj{f:Nat→AV}(t:Nat):∀(ks:List Nat),get (ks.zip (ks.map f)) t=f t∨get (ks.zip (ks.map f)) t=.unk
 |[]=>.inr rfl
 |k::ks=>by
  simp only[List.map_cons,List.zip_cons_cons,get];cases hb:Nat.beq k t with
  |true=>have:=Nat.eq_of_beq_eq_true hb;subst this;exact .inl rfl
  |false=>exact zJj t ks
def zJy{f:Nat→AV}(t:Nat):∀ {ks:List Nat},t ∈ ks→get (ks.zip (ks.map f)) t=f t
 |[],h=>by cases h
 |k::ks,h=>by
  simp only[List.map_cons,List.zip_cons_cons,get];cases hb:Nat.beq k t with
  |true=>have:=Nat.eq_of_beq_eq_true hb;subst this;rfl
  |false =>
   have:=Nat.ne_of_beq_eq_false hb;rcases List.mem_cons.1 h with h|h
   ·exact absurd h.symm this
   exact zJy t h
def yAJ{g:Look}{ids:List Nat}{d:Nat}{v:AV}(h:ren g ids d v=.nov):v=.nov:=by
 cases d with
 |zero=>cases h
 |succ d =>
  cases v with
  |nov=>rfl
  |box id off=>simp only[ren] at h;cases hm:mem id ids<;>rw[hm] at h<;>cases h
  |el id ver i off=>simp only[ren] at h;cases hm:(fresh g id ver&&mem id ids)<;>rw[hm] at h<;>cases h
  |hs id ver=>simp only[ren] at h;cases hm:(fresh g id ver&&mem id ids)<;>rw[hm] at h<;>cases h
  |hsub id ver lo len=>simp only[ren] at h;cases hm:(fresh g id ver&&mem id ids)<;>rw[hm] at h<;>cases h
  |mp id=>simp only[ren] at h;cases hm:mem id ids<;>rw[hm] at h<;>cases h
  |yld id=>simp only[ren] at h;cases hm:mem id ids<;>rw[hm] at h<;>cases h
  |_=>simp only[ren] at h;cases h
theorem DRel.ren {γ γ':G} {g g':Look} {w:World} {e:Nat} {ids:List Nat} {d:Nat} (hf:∀x u,VR γ g x u→VR γ' g' (Ab.ren g ids (d+1) x) u) (hβ:∀i b,γ'.β i=some b→∃j,γ.β j=some b) :
  ∀ {vs:List AV} {ds:List Deferred},DRel γ g w e vs ds→DRel γ' g' w e (vs.map (Ab.ren g ids (d+1))) ds
 |[],[],_=>trivial
 |v::vs,dd::ds,h=>by
  refine⟨?_,h.2.1,DRel.ren hf hβ h.2.2⟩;cases h.1 with
  |mark D h1 h2 h3=>exact .mark D h1 h2 fun id hid=>let ⟨j,hj⟩:=hβ id D hid;h3 j hj
  |call v d fv cap hne h1 h2=>exact .call _ _ fv cap (fun hh=>hne (yAJ hh)) h1 (hf _ _ h2)
 |[],_::_,h=>h.elim
 |_::_,[],h=>h.elim
theorem DR.ren {γ γ':G} {g g':Look} {w:World} {e:Nat} {ids:List Nat} (hf:∀d x u,VR γ g x u→VR γ' g' (Ab.ren g ids d x) u) (hβ:∀i b,γ'.β i=some b→∃j,γ.β j=some b)
  {v:AV} {ds:List Deferred} (h:DR γ g w e v ds):DR γ' g' w e (Ab.ren g ids depth v) ds:=by
 unfold DR at h;split at h
 ·exact h
 ·exact h
 ·exact DRel.ren (d:=3) (hf 4) hβ h
 exact h.elim
def Post(w0:World)(rr:Option Nat)(e k m:Nat)(γ:G)(g:Look)(w:World)(r:Ex)(st':St)(Q:Exit→Act→World→Prop):Prop :=
 ∀ γ' a' w',Inv w0 rr e k γ' st'.h st'.T a' w'→Fr γ w γ' w'→qC γ.imm γ'.imm→Keep m γ g γ' (nth st'.h)→match r with
  |.normal=>Q .normal a' w'
  |.exit id=>Q (.exit id) a' w'
  |.ret=>Q .ret a' w'
  |.pan v=>∀u,VR γ' (nth st'.h) v u→Q (.panic [{ v:=u,recovered:=false }]) a' w'
theorem Post.after {w0:World} {rr:Option Nat} {e k m:Nat} {γ γ1:G} {g g1:Look} {w w1:World} {r:Ex} {st':St} {Q:Exit→Act→World→Prop} (h:Post w0 rr e k m γ g w r st' Q)
  (f:Fr γ w γ1 w1) (i:qC γ.imm γ1.imm) (kp:Keep m γ g γ1 g1):Post w0 rr e k m γ1 g1 w1 r st' Q :=
 fun γ' a' w' h1 h2 h3 h4=>h γ' a' w' h1 (f.trans h2) (i.trans h3) (kp.trans h4)
theorem Keep.refl(m:Nat)(γ:G)(g:Look):Keep m γ g γ g:=⟨fun _ _ _ h h'=>⟨h,h'⟩,fun _ _ h=>h⟩
def zFy{p:Nat→Prop}(h:∃n,p n):∃n,p n∧∀m,p m→n≤m:=by
 obtain⟨n,hn⟩:=h
 induction n using Nat.strongRecOn with
 |_ n ih =>
  by_cases hh:∃m,m<n∧p m
  ·obtain⟨m,hm,hp⟩:=hh;exact ih m hm hp
  exact⟨n,hn,fun m hm=>Nat.le_of_not_lt fun hlt=>hh ⟨m,hlt,hm⟩⟩
def zCV(C:Cfg)(ρ:Oracle)(w0:World):Prop :=
 ∀(rr:Option Nat) (e k m:Nat) (id:Nat) (ops:Array Oper) (draw:Bool) (st:St) (r:Ex) (st':St) (γ:G) (a:Act) (w:World) (Q:Exit→Act→World→Prop),
  region C ρ k ops.toList draw st=some (r,st')→Inv w0 rr e k γ st.h st.T a w→Post w0 rr e k m γ (nth st.h) w r st' Q→(Code.region id ops draw).wpIn (Wd rr) 0 C.P Q a w
def zUY{k:Nat}{T:Env}{ks:List Nat}(h:get T k≠.unk):k ∈ zCk k T ks:=by
 unfold zCk;split
 ·rename_i hh;exact absurd hh h
 split
 ·rename_i hm;exact zD8.1 hm
 exact .head _
def zWM {w0:World} {rr:Option Nat} {e k m:Nat} {keep:Option (List Nat)} {st st':St} {γ:G} {a:Act} {w:World} (hx:tidy m k keep st=some st') (hi:Inv w0 rr e k γ st.h st.T a w) :
  ∃ γ',Inv w0 rr e k γ' st'.h st'.T a w∧Fr γ w γ' w∧qC γ.imm γ'.imm∧Keep m γ (nth st.h) γ' (nth st'.h):=by
 unfold tidy at hx;split at hx
 ·cases hx;exact⟨γ,hi,.refl _ _,.refl _,.refl _ _ _⟩
 rename_i ks;split at hx
 ·rename_i vs h hc;cases hx;obtain⟨ids,h1,h2,h3,h4⟩:=zED hi.hr hc;have hgk:get ((zCk k st.T ks).zip vs) k=ren (nth st.h) ids depth (get st.T k):=by
   rw[h3];unfold renL;rw[List.map_map]
   by_cases hu:get st.T k=.unk
   ·rcases zJj (f:=ren (nth st.h) ids depth ∘ get st.T) k (zCk k st.T ks) with h5|h5
    ·exact h5
    rw[h5,hu];rfl
   exact zJy (f:=ren (nth st.h) ids depth ∘ get st.T) k (zUY hu)
  refine⟨γ.sub ids,⟨h1,hi.base.sub ids,fun t=>?_,hi.sz,?_,hi.ew,fun hh=>?_⟩,.sub _ _ _,.refl _,h2⟩
  ·simp only;rw[h3];unfold renL;rw[List.map_map];rcases zJj (f:=ren (nth st.h) ids depth ∘ get st.T) t (zCk k st.T ks) with h5|h5
   ·rw[h5];exact(h4 _ _ _ (hi.er t))
   rw[h5];exact .unk _
  ·simp only;rw[hgk];refine DR.ren (γ:=γ) (fun d x u hv=>h4 d x u hv) (fun i b hb=>?_) hi.nd;cases hid:ids[i]? with
   |none=>simp only[G.sub,hid] at hb;cases hb
   |some id=>exact⟨id,by simpa only [G.sub,hid] using hb⟩
  simp only;rw[hgk,hi.ro hh];rfl
 cases hx
def zRK{F:Fence}{n:Nat}{P:Program}{Q:Exit→Act→World→Prop}{a:Act}{w:World}{c:Code}(h:c.wpIn F n P (Exit.noGoto Q) a w):(Code.scope c).wpIn F n P Q a w:=by
 intro b k cs hro hb hr;have s1:∀(a:Act) (w:World),step P (lone (b.atR a (.code (.scope c)::k)) cs w)=.next (lone (b.atR a (.code c::.inScope c::k)) cs w) :=
  fun a w=>step_lone_go (by simp [stepG,stepG.exec,Frame.atR])
 have s2:∀(a:Act) (w:World),step P (lone (b.atR a (.inScope c::k)) cs w)=.next (lone (b.atR a k) cs w) :=
  fun a w=>step_lone_go (by simp [stepG,stepG.exec,Frame.atR])
 have h0:(lone (b.atR a (.code (.scope c)::k)) cs w).fenced P F:=fenced_calm hb hr rfl;obtain⟨e,a₁,w₁,hq,harr⟩:=h b (.inScope c::k) cs hro hb hr;cases e with
 |normal=>exact⟨.normal,a₁,w₁,hq,.head h0 (s1 a w) (StepsIn.trans harr (.one (fenced_calm hb hr rfl) (s2 a₁ w₁)))⟩
 |exit id =>
  have hx:exitTo id (.inScope c::k)=exitTo id k:=by simp [exitTo]
  exact⟨.exit id,a₁,w₁,hq,fun k' hk=>.head h0 (s1 a w) (harr.1 k' (by rw[hx];exact hk)),
   fun hr' hk=>let ⟨k₁,h1,h2⟩:=harr.2 hr' (by rw[hx];exact hk);⟨k₁,h1,.head h0 (s1 a w) h2⟩⟩
 |goto l=>exact hq.elim
 |ret=>exact⟨_,a₁,w₁,hq,.of_steps (.one h0 (s1 a w)) harr⟩
 |panic ch=>exact⟨_,a₁,w₁,hq,.of_steps (.one h0 (s1 a w)) harr⟩
 |outgrown=>exact⟨_,a₁,w₁,hq,.of_steps (.one h0 (s1 a w)) harr⟩
theorem HR.grow{γ:G}{g:Look}{w w':World}(h:HR γ g w)(hk:∀b,b<w.heap.size→w'.heap[b]?=w.heap[b]?):HR γ g w':=h.of_keep hk
def zRr{γ:G}{g:Look}{k:Nat}{keep:Option (List Nat)}{T T':Env}{a:Act}(h:ER γ g T a)(hx:zD5 k keep T=some T'):ER γ g T' a:=by
 unfold zD5 at hx;split at hx
 ·split at hx
  ·cases hx;exact h
  cases hx
 rename_i ks;split at hx
 ·cases hx
 cases hx;intro t;rcases zJj (f:=get T) t ks with h5|h5
 ·rw[h5];exact h t
 rw[h5];exact .unk _
def zJ2 {γ:G} {g:Look} {w:World} {id L:Nat} {c c':LoopC} {T T':List (Nat×AV)} {st st':Nat} {j j':Option Code} {r':Loop} (h:HR γ g w) (hb:γ.β id=some L) (hg:g id=some (.loop c T st j))
  (hl:LR γ g c' T' st' j' r') :
  Ext γ g γ (upd g [(id,.loop c' T' st' j')])∧HR γ (upd g [(id,.loop c' T' st' j')]) (w.putObj L (.loop r'))∧Fr γ w γ (w.putObj L (.loop r')):=by
 obtain⟨o,ho,hor⟩:=h.obj id L hb;rw[hg] at ho;cases ho;obtain⟨⟨r,h1,_⟩,h4⟩:=hor;have hlt:=h.lt hb;have hcur:cur (upd g [(id,.loop c' T' st' j')]) id=cur g id:=by unfold cur;rw[yS,if_pos rfl,hg]
 have hdim:dims (upd g [(id,.loop c' T' st' j')]) id=dims g id:=by unfold dims;rw[yS,if_pos rfl,hg]
 have hc2:∀j,cur (upd g [(id,.loop c' T' st' j')]) j=cur g j:=fun j=>by
  by_cases hj:j=id
  ·subst hj;exact hcur
  exact zAn hj
 have hd2:∀j,dims (upd g [(id,.loop c' T' st' j')]) j=dims g j:=fun j=>by
  by_cases hj:j=id
  ·subst hj;exact hdim
  exact zBT hj
 have e:Ext γ g γ (upd g [(id,.loop c' T' st' j')]):=⟨.refl _,fun j b hb hc'=>⟨hb,by rw[hc2];exact hc'⟩,fun j c hc'=>⟨c,by rw[hc2];exact hc',Nat.le_refl _,fun _=>⟨rfl,rfl,hd2 j⟩⟩⟩
 exact zFi (w':=w.putObj L (.loop r')) h hb h4 hcur hdim (fun b' hb'=>World.putObj_heap_other hb') World.putObj_size
  ⟨⟨r',World.putObj_heap_same hlt,hl.mono e⟩,h4⟩
def arr3(us vs:List Value)(x:Value):us.toArray++#[x]++vs.toArray=(us++([x]++vs)).toArray:=by simp
set_option maxHeartbeats 1000000 in
def zRU {C:Cfg} {w0:World} {rr:Option Nat} {e:Nat} {ρ:Oracle} (hρ:xW C.P w0 ρ) (hpr:uV C w0) {m k:Nat} (keep:Nat→Option (List Nat)) {f:Operand} {ps:Array Tmp} {asg body:Code}
  {st st':St} {r:Ex} {γ:G} {a:Act} {w:World} {Q:Exit→Act→World→Prop} (hx:zEt C ρ k keep f ps.toList asg body st=some (r,st')) (hi:Inv w0 rr e k γ st.h st.T a w)
  (hp:Post w0 rr e k m γ (nth st.h) w r st' Q):(Code.rangeFunc f ps asg body).wpIn (Wd rr) 0 C.P Q a w:=by
 unfold zEt at hx;split at hx
 ·rename_i T' T1 hle hpush;have hnone:rr=none:=by
   cases hrn:rr with
   |none=>rfl
   |some l =>
    have h1:rr.isSome=true:=by rw[hrn];rfl
    unfold jE yI at hpush;rw[hi.ro h1] at hpush;cases hpush
  subst hnone;generalize hLO:(Obj.loop ⟨k,kfOf keep,ps.toList,asg,body⟩ T' 0 none)=LO at hx;split at hx
  ·cases hx
  ·cases hx
  rename_i v p hcall;split at hx
  ·rename_i c T2 b jump hnth;split at hx
   ·cases hx
   rename_i hbusy;refine wpIn_rangeFunc fun fn _=>?_
   obtain⟨rec,hrec⟩:∃rec:Loop,rec={ state:=.ready,pending:=none,fn,tmps:=a.tmps,params:=ps,assign:=asg,body,defers:=w.heap.size }:=⟨_,rfl⟩
   let wa:=w.alloc (.deferred (some []))
   let w1:=wa.alloc (.loop rec)
   have hwa:wa.heap.size=w.heap.size+1:=World.size_alloc _ _
   -- the two blocks
   have keepa:∀b,b<w.heap.size→wa.heap[b]?=w.heap[b]?:=fun b hb=>by
    show (w.heap.push _)[b]?=_
    rw[Array.getElem?_push,if_neg (by omega)]
   have hra:HR γ (nth st.h) wa:=hi.hr.grow keepa;have fra:Fr γ w γ wa:=⟨by rw[hwa];omega,fun b hb _=>keepa b hb,fun id b hb=>.inr ⟨id,hb⟩,fun _ _ _ h=>.inl h,rfl,rfl⟩
   obtain⟨hfree1,hfree2⟩:=hi.hr.free (Nat.le_refl st.h.length);have hL0:LR (γ.new st.h.length wa.heap.size 0) (upd (nth st.h) [(st.h.length,LO)]) ⟨k,kfOf keep,ps.toList,asg,body⟩ T' 0 none rec:=by
    have x0:=Ext.new (γ:=γ) (g:=nth st.h) wa.heap.size 0 LO hfree1 hfree2;rw[hrec];exact⟨rfl,rfl,rfl,hi.sz,rfl,rfl,fun t=>(zRr hi.er hle t).mono x0⟩
   obtain⟨x1,hr1,fr1⟩:=zC9 (n:=0) (w':=w1) (o:=LO) (X:=.loop rec) hfree1 hfree2 hra rfl
    (by
      rw[← hLO] at hL0 ⊢;exact⟨⟨rec,by show (wa.heap.push _)[wa.heap.size]?=_;rw[Array.getElem?_push,if_pos rfl],hL0⟩,fun o=>zAe hra o⟩)
   let γ1:=γ.new st.h.length wa.heap.size 0
   let g1:=upd (nth st.h) [(st.h.length,LO)]
   have f1:Fr γ w γ1 w1:=fra.trans fr1;have hb1:Base w0 γ1 w1:=hi.base.mono f1;have hcy:cur g1 st.h.length=none:=by show cur (upd (nth st.h) [(st.h.length,LO)]) _=_;unfold cur;rw[yS,if_pos rfl,← hLO]
   have hby:γ1.β st.h.length=some (w.heap.size+1):=by show (γ.new _ _ _).β _=_;simp [G.new,hwa]
   have hyv:VR γ1 g1 (.yld st.h.length) (.func (.yield (w.heap.size+1)) #[] #[]):=.yld _ _ hby hcy;have hD:w1.heap[w.heap.size]?=some (.deferred (some [])):=by
    show ((w.heap.push _).push _)[w.heap.size]?=_
    rw[Array.getElem?_push,if_neg (by simp),Array.getElem?_push,if_pos rfl]
   have hDn:∀id,γ1.β id≠some w.heap.size:=fun id hid=>by
    have hid:(if id=st.h.length then some wa.heap.size else γ.β id)=some w.heap.size:=hid;split at hid
    ·have:=Option.some.inj hid;omega
    have:=hi.hr.lt hid;omega
   -- the call,and what comes of it
   have hfv:=(yC hi.er f).mono x1;have hfree:∀i o,st.h.length+1≤i→(i,o) ∈ p→γ1.β i=none∧g1 i=none:=fun i o hle _=>by
    obtain⟨h1,h2⟩:=hi.hr.free (i:=i) (by omega);refine⟨?_,?_⟩
    ·show (if i=st.h.length then some wa.heap.size else γ.β i)=none
     rw[if_neg (by omega)];exact h1
    show upd (nth st.h) [(st.h.length,LO)] i=none
    rw[yS,if_neg (by omega)];exact h2
   have behind:∀(f':FuncId) (us:List Value),Calls C.P f' us.toArray w1 (zNM γ1 g1 w1 p (.val v)) →
     CallsIn (Wd none) 0 C.P f' us.toArray w1 (rangePost (Wd none) 0 C.P (w.heap.size+1) Q { a with defers:=[{ target:=.collected w.heap.size,args:=#[] }]++a.defers }):=by
    intro f' us hc;refine zHn.2 (Calls.mono hc fun en w2 ⟨γ2,x2,hr2,f2,hen⟩=>?_);cases en with
    |panicked c=>exact False.elim hen
    |outgrown=>exact False.elim hen
    |returned u =>
     obtain⟨hb2,hc2⟩:=x2.box _ _ hby hcy;have same1:Same g1 (nth (patch st.h [(st.h.length,LO)])):=kI (Same.refl _);have same2:Same (upd g1 p) (nth (patch (patch st.h [(st.h.length,LO)]) p)):=kI same1;obtain⟨o,ho,hor⟩:=hr2.obj _ _ hb2;have ho':=same2.1 _ _ ho;rw[hnth] at ho';cases ho';obtain⟨⟨rc,hrc,hlr⟩,himm⟩:=hor;have hnb:rc.state≠.busy:=fun hh=>by
      have:=hlr.st;rw[hh] at this;rw[← this] at hbusy;exact absurd hbusy (by decide)
     refine⟨rc.pending,_,run_endLoop hrc hnb,?_⟩;obtain⟨x3,hr3,f3⟩:=zJ2 (r':={ rc with state:=.exhausted }) (c':=c) (T':=T2) (st':=3) (j':=jump) hr2 hb2 ho ⟨hlr.ps,hlr.asg,hlr.body,hlr.sz,rfl,hlr.j,hlr.er⟩;generalize hW:w2.putObj (w.heap.size+1) (.loop { rc with state:=.exhausted })=w3;rw[hW] at hr3 f3;have same3:Same (upd (upd g1 p) [(st.h.length,.loop c T2 3 jump)]) (nth (patch (patch (patch st.h [(st.h.length,LO)]) p) [(st.h.length,.loop c T2 3 jump)])):=kI same2;have xx:Ext γ (nth st.h) γ2 (nth (patch (patch (patch st.h [(st.h.length,LO)]) p) [(st.h.length,.loop c T2 3 jump)])):=(x1.trans (x2.trans x3)).trans (same3.ext γ2);have ff:=f1.trans (f2.trans f3);have hinv:Inv w0 none e k γ2 (patch (patch (patch st.h [(st.h.length,LO)]) p) [(st.h.length,.loop c T2 3 jump)]) T1 { a with defers:=[{ target:=.collected w.heap.size,args:=#[] }]++a.defers } w3:=by
      have h0:Inv w0 none e k γ2 (patch (patch (patch st.h [(st.h.length,LO)]) p) [(st.h.length,.loop c T2 3 jump)]) st.T a w3 :=
       ⟨hr3.same same3,hi.base.mono ff,hi.er.mono xx,hi.sz,hi.nd.mono xx ff,Nat.le_trans hi.ew ff.size,fun hh=>by cases hh⟩
      refine h0.push hpush ?_ (fun D hD d' hd' hd2=>by cases hD;exact absurd (hi.nd.lt d' hd' _ hd2) (Nat.lt_irrefl _));have h1:DOne γ1 g1 w1 e .nov { target:=.collected w.heap.size,args:=#[] }:=.mark _ hi.ew hD hDn;exact h1.mono ((x2.trans x3).trans (same3.ext γ2)) (f2.trans f3)
     have hkp:=xx.keep m;rw[hlr.j];unfold zEA at hx;split at hx
     ·cases hx;exact hp γ2 _ _ hinv ff xx.imm hkp
     ·cases hx;exact wpIn_exit (hp γ2 _ _ hinv ff xx.imm hkp)
     ·cases hx;exact wpIn_ret (hp γ2 _ _ hinv ff xx.imm hkp)
     cases hx
   refine⟨w.heap.size+1,[{ target:=.collected w.heap.size,args:=#[] }],w1,?_⟩;have hent:(Instr.enterLoop fn a.tmps ps asg body none).run C.P w=.ok (w.heap.size+1,[{ target:=.collected w.heap.size,args:=#[] }]) w1:=by
    rw[run_enterLoop_outer,← hrec]
   unfold zFX at hcall;split at hcall
   ·rename_i f' hop;rw[hop] at hfv;have hfe:a.eval f=.func (.func f') #[] #[]:=by
     generalize a.eval f=fv at hfv;cases hfv with
     |t _ _ ht=>cases ht;rfl
    have hvs:VRs γ1 g1 [.yld st.h.length] [.func (.yield (w.heap.size+1)) #[] #[]]:=.cons hyv .nil;obtain⟨hbody,hc⟩:=zFP hρ hpr hr1 hb1 hvs hcall hfree;refine⟨{ target:=.fn (.func f') #[],args:=#[.func (.yield (w.heap.size+1)) #[] #[]] },w1,f',#[.func (.yield (w.heap.size+1)) #[] #[]],w1,hent,?_,fun _ _=>trivial,?_,fun h=>by simp [Fence.wide] at h,behind f' _ hc⟩
    ·simp only[resolve,hfe,Deferred.ofValue];simp [Act.eval]
    simp only[invoke];rw[Array.append_empty];exact zDK hbody
   ·rename_i f' first captured hop
    rw[hop] at hfv;generalize hfe:a.eval f=fv at hfv;cases hfv with
    |fn _ _ _ us vs hl hl' h1 h2 =>
     have hfirst:VRs γ1 g1 first us:=⟨hl,h1⟩
     have hcap:VRs γ1 g1 captured vs:=⟨hl',h2⟩
     have hvs:VRs γ1 g1 (first++([.yld st.h.length]++captured)) (us++([.func (.yield (w.heap.size+1)) #[] #[]]++vs)):=hfirst.append ((VRs.cons hyv .nil).append hcap);obtain⟨hbody,hc⟩:=zFP hρ hpr hr1 hb1 hvs hcall hfree;refine⟨{ target:=.fn (.func f') vs.toArray,args:=us.toArray++#[Value.func (.yield (w.heap.size+1)) #[] #[]] },w1,f',(us++([Value.func (.yield (w.heap.size+1)) #[] #[]]++vs)).toArray,w1,hent,?_,fun _ _=>trivial,?_,fun h=>by simp [Fence.wide] at h,behind f' _ hc⟩
     ·simp only[resolve,hfe,Deferred.ofValue];simp [Act.eval]
     simp only[invoke];rw[arr3];exact zDK hbody
   cases hcall
  cases hx
 cases hx
def zFn {C:Cfg} {w0:World} {rr:Option Nat} {e:Nat} {ρ:Oracle} (hρ:xW C.P w0 ρ) (hpr:uV C w0) (hreg:zCV C ρ w0) (n m k:Nat) (keep:Nat→Option (List Nat)) :
  ∀(c:Code) (st:St) (r:Ex) (st':St) (γ:G) (a:Act) (w:World) (Q:Exit→Act→World→Prop),
   exec C ρ n m k keep c st=some (r,st')→Inv w0 rr e k γ st.h st.T a w→Post w0 rr e k m γ (nth st.h) w r st' Q→c.wpIn (Wd rr) 0 C.P Q a w:=by
 intro c
 induction c with
 |skip =>
  intro st r st' γ a w Q hx hi hp;simp only[exec,Option.some.injEq,Prod.mk.injEq] at hx;obtain⟨rfl,rfl⟩:=hx;exact wpIn_skip (hp γ a w hi (.refl _ _) (.refl _) (.refl _ _ _))
 |region id ops draw =>
  intro st r st' γ a w Q hx hi hp;exact hreg rr e k m id ops draw st r st' γ a w Q hx hi hp
 |seq x y ihx ihy =>
  intro st r st' γ a w Q hx hi hp;unfold exec at hx;split at hx
  ·rename_i st1 h1;refine wpIn_seq (ihx st .normal st1 γ a w _ h1 hi fun γ1 a1 w1 i1 f1 m1 k1=>?_);exact ihy st1 r st' γ1 a1 w1 Q hx i1 (hp.after f1 m1 k1)
  rename_i r1 hne;refine wpIn_seq (ihx st r st' γ a w _ hx hi fun γ1 a1 w1 i1 f1 m1 k1=>?_);have:=hp γ1 a1 w1 i1 f1 m1 k1;cases r with
  |normal=>exact absurd hx (hne st')
  |exit id=>exact this
  |ret=>exact this
  |pan v=>exact this
 |cond c x y ihx ihy =>
  intro st r st' γ a w Q hx hi hp;unfold exec at hx;have hc:=yC hi.er c;split at hx
  ·rename_i hop;rw[hop] at hc;have:a.eval c=.bool true:=by
    generalize a.eval c=cv at hc;cases hc with
    |t _ _ ht=>cases ht;rfl
   exact wpIn_cond_true this (ihx st r st' γ a w Q hx hi hp)
  ·rename_i hop;rw[hop] at hc;have:a.eval c=.bool false:=by
    generalize a.eval c=cv at hc;cases hc with
    |t _ _ ht=>cases ht;rfl
   exact wpIn_cond_false this (ihy st r st' γ a w Q hx hi hp)
  cases hx
 |block id b ih =>
  intro st r st' γ a w Q hx hi hp;unfold exec at hx;split at hx
  ·rename_i id' st1 h1;refine wpIn_block (ih st (.exit id') st1 γ a w _ h1 hi fun γ1 a1 w1 i1 f1 m1 k1=>?_);simp only[Exit.inBlock];split at hx
   ·rename_i he;cases hx;rw[if_pos he];exact hp γ1 a1 w1 i1 f1 m1 k1
   rename_i he;cases hx;rw[if_neg he];exact hp γ1 a1 w1 i1 f1 m1 k1
  rename_i r1 hne;refine wpIn_block (ih st r st' γ a w _ hx hi fun γ1 a1 w1 i1 f1 m1 k1=>?_);have:=hp γ1 a1 w1 i1 f1 m1 k1;cases r with
  |normal=>exact this
  |exit id=>exact absurd hx (hne id st')
  |ret=>exact this
  |pan v=>exact this
 |loop b ih =>
  intro st r st' γ a w Q hx hi hp;unfold exec at hx;have hgen:∃ks,iter (tidy m k ks) (exec C ρ n m k keep b) n st=some (r,st'):=⟨_,hx⟩
  obtain⟨ks,hx⟩:=hgen
  let R:Nat→Act→World→Prop:=fun f a w=>∃st2 γ2,iter (tidy m k ks) (exec C ρ n m k keep b) f st2=some (r,st')∧Inv w0 rr e k γ2 st2.h st2.T a w∧Post w0 rr e k m γ2 (nth st2.h) w r st' Q
  have hR:R n a w:=⟨st,γ,hx,hi,hp⟩
  let μ:Act→World→Nat:=fun a w=>open Classical in if h:∃f,R f a w then Classical.choose (zFy h) else 0
  have hμ:∀a w f,R f a w→R (μ a w) a w∧μ a w≤f:=fun a w f h=>by
   have hex:∃f,R f a w:=⟨f,h⟩
   have hs:=Classical.choose_spec (zFy hex);have he:μ a w=Classical.choose (zFy hex):=dif_pos hex;rw[he];exact⟨hs.1,hs.2 f h⟩
  refine wpIn_loop (fun a w=>∃f,R f a w) μ ⟨n,hR⟩ fun a w ⟨f0,hf0⟩=>?_
  obtain⟨⟨st2,γ2,h1,h2,h3⟩,_⟩:=hμ a w f0 hf0;cases hf:μ a w with
  |zero=>rw[hf] at h1;simp [iter] at h1
  |succ f =>
   rw[hf] at h1;unfold iter at h1;split at h1
   ·cases h1
   rename_i st3 htidy;obtain⟨γ3,i3,f3,m3,k3⟩:=zWM htidy h2;have h4:=h3.after f3 m3 k3;split at h1
   ·rename_i st4 hb;refine ih st3 .normal st4 γ3 a w _ hb i3 fun γ5 a5 w5 i5 f5 m5 k5=>?_
    have hR5:R f a5 w5:=⟨st4,γ5,h1,i5,h4.after f5 m5 k5⟩
    exact⟨⟨f,hR5⟩,Nat.lt_succ_of_le (hμ a5 w5 f hR5).2⟩
   rename_i r1 hne;refine ih st3 r st' γ3 a w _ h1 i3 fun γ5 a5 w5 i5 f5 m5 k5=>?_
   have:=h4 γ5 a5 w5 i5 f5 m5 k5;cases r with
   |normal=>exact absurd h1 (hne st')
   |exit id=>exact this
   |ret=>exact this
   |pan v=>exact this
 |rangeFunc f ps x y ihx ihy =>
  intro st r st' γ a w Q hx hi hp;unfold exec at hx;exact zRU hρ hpr keep hx hi hp
 |exit id =>
  intro st r st' γ a w Q hx hi hp;simp only[exec,Option.some.injEq,Prod.mk.injEq] at hx;obtain⟨rfl,rfl⟩:=hx;exact wpIn_exit (hp γ a w hi (.refl _ _) (.refl _) (.refl _ _ _))
 |scope b ih =>
  intro st r st' γ a w Q hx hi hp;unfold exec at hx;refine zRK (ih st r st' γ a w _ hx hi fun γ1 a1 w1 i1 f1 m1 k1=>?_);have:=hp γ1 a1 w1 i1 f1 m1 k1;cases r with
  |normal=>exact this
  |exit id=>exact this
  |ret=>exact this
  |pan v=>exact this
 |label l =>
  intro st r st' γ a w Q hx hi hp;simp only[exec,Option.some.injEq,Prod.mk.injEq] at hx;obtain⟨rfl,rfl⟩:=hx;exact wpIn_label (hp γ a w hi (.refl _ _) (.refl _) (.refl _ _ _))
 |goto l=>intro st r st' γ a w Q hx;simp [exec] at hx
 |ret =>
  intro st r st' γ a w Q hx hi hp;simp only[exec,Option.some.injEq,Prod.mk.injEq] at hx;obtain⟨rfl,rfl⟩:=hx;exact wpIn_ret (hp γ a w hi (.refl _ _) (.refl _) (.refl _ _ _))
 |refuse s=>intro st r st' γ a w Q hx;simp [exec] at hx
def zVS {P:Program} {γ:G} {g:Look} {w:World} {t:TypeId} {a v:AV} {u:Value} (h:HR γ g w) (hv:VR γ g a u) (hx:load P g t a=some v) :
  ∃ad r,u=.pointer (some ad)∧(loadVar t ad).run P w=.ok r w∧VR γ g v r:=by
 unfold load at hx;split at hx
 ·rename_i hagg;split at hx
  ·rename_i n hn;split at hx
   ·rename_i cs hcs;cases hx;obtain⟨b,o,vs,rfl,hl,hvs,hc⟩:=zDs h hcs hv;have hrun:=run_loadCells_list (P:=P) w ⟨b,o,none⟩ vs (fun j x hj=>by rw[vS];exact hc j x hj);rw[hl] at hrun;refine⟨_,.agg vs.toArray,rfl,?_,.mkAgg hvs⟩;simp only[loadVar,Sem.run_bind,Sem.run_pure,Result.andThen_ok,zDb hagg,if_true,vR hn,hrun]
   cases hx
  cases hx
 ·rename_i hagg;split at hx
  ·rename_i v' hcs;cases hx;obtain⟨b,o,vs,rfl,hl,hvs,hc⟩:=zDs h hcs hv;obtain⟨v0,vs',rfl,h0,_⟩:=hvs.cases_cons;have hc0:=hc 0 v0 rfl;simp only[Nat.add_zero] at hc0;have hl0:(Go.load ⟨b,o,none⟩).run P w=.ok v0 w:=by rw[run_load];simp [hc0]
   refine⟨_,v0,rfl,?_,h0⟩;simp only[loadVar,Sem.run_bind,Result.andThen_ok,zDb hagg,Bool.false_eq_true,if_false,hl0]
  cases hx
 cases hx
def zF5(tmps:Array Value):ResultVar→Sem Value
 |.tmp t=>pure (tmps.getD t undef)
 |.cell a t=>do loadVar t (← asAddr (tmps.getD a undef))
def zEM {P:Program} {γ:G} {st:St} {a:Act} {w:World} (hr:HR γ (nth st.h) w) (he:ER γ (nth st.h) st.T a) :
  ∀ {rs:List ResultVar} {vs:List AV},qQ P st rs=some vs→∃us,(rs.mapM (zF5 a.tmps)).run P w=.ok us w∧VRs γ (nth st.h) vs us
 |[],vs,h=>by
  simp only[qQ,Option.some.injEq] at h;subst h;exact⟨[],by simp,.nil⟩
 |r::rs,vs,h=>by
  unfold qQ at h;split at h
  ·cases h
  rename_i v hv;split at h
  ·cases h
  rename_i vs' hvs;cases h;obtain⟨us,h1,h2⟩:=zEM hr he hvs;have h0:∃u,(zF5 a.tmps r).run P w=.ok u w∧VR γ (nth st.h) v u:=by
   unfold zA5 at hv;split at hv
   ·cases hv;exact⟨_,rfl,he _⟩
   obtain⟨ad,u,e1,e2,e3⟩:=zVS hr (he _) hv;refine⟨u,?_,e3⟩;simp only[zF5,e1,asAddr,Sem.run_bind,Sem.run_pure,Result.andThen_ok,e2]
  obtain⟨u,h3,h4⟩:=h0;refine⟨u::us,?_,.cons h4 h2⟩;rw[List.mapM_cons];simp only[Sem.run_bind,h3,h1,Result.andThen_ok,Sem.run_pure]
def zRk(fn:Func)(tmps:Array Value):Go.results fn tmps=(do
  let vs ← fn.results.mapM (zF5 tmps)
  pure (if h:vs.size=1 then vs[0] else .tuple vs)):=by
 unfold Go.results
 congr 1
def zGi {P:Program} {γ:G} {st:St} {a:Act} {w:World} {fn:Func} {v:AV} (hr:HR γ (nth st.h) w) (he:ER γ (nth st.h) st.T a) (hx:results P fn st=some v) :
  ∃u,(Go.results fn a.tmps).run P w=.ok u w∧VR γ (nth st.h) v u:=by
 rw[zRk,Array.mapM_eq_mapM_toList];unfold results at hx;split at hx
 ·rename_i v' hvs;cases hx;obtain⟨us,h1,h2⟩:=zEM (P:=P) hr he hvs;obtain⟨u,us',rfl,h3,h4⟩:=h2.cases_cons;have:=h4.nil_inv;subst this;exact⟨u,by simp [h1],h3⟩
 ·rename_i vs hne hvs;cases hx;obtain⟨us,h1,h2⟩:=zEM (P:=P) hr he hvs;refine⟨.tuple us.toArray,?_,.tup vs us h2.1 h2.2⟩;have hl:us.length≠1:=fun hl=>by
   rw[← h2.1] at hl
   match vs,hl with
   |[x],_=>exact hne x rfl
  simp [h1,hl]
 cases hx
def zLK{γ:G}{g g':Look}{w:World}(hr:HR γ g' w):∀ {xs:List AV} {vs:List Value},
  (∀x ∈ xs,∀id ∈ yO g x,∀s ver frz es,g id=some (.arr s ver frz es)→g' id=some (.arr s ver true es))→VRs γ g' xs vs→VRs γ g' (xs.map (view g)) vs
 |[],vs,_,hv=>by rw[hv.nil_inv];exact .nil
 |x::xs,vs,hp,hv=>by
  obtain⟨v,vs',rfl,hx,hxs⟩:=hv.cases_cons;exact .cons (zGF hr (hp x (.head _)) hx) (zLK hr (fun y hy=>hp y (List.mem_cons_of_mem _ hy)) hxs)
def zRH {γ:G} {g g':Look} {w:World} {v:AV} {u:Value} (hr:HR γ g' w) (hp:∀id ∈ qO g v,∀s ver frz es,g id=some (.arr s ver frz es)→g' id=some (.arr s ver true es))
  (hv:VR γ g' v u):VR γ g' (jV g v) u:=by
 unfold jV;split
 ·rename_i vs;cases hv with
  |tup _ us hl h =>
   have hh:VRs γ g' vs us:=⟨hl,h⟩
   have:=zLK (g:=g) hr (fun x hx id hid=>hp id (by unfold qO;exact wD.2 ⟨x,hx,hid⟩)) hh;exact .tup _ us this.1 this.2
 rename_i hne;refine zGF hr (fun id hid=>hp id ?_) hv;unfold qO;split
 ·rename_i vs;exact absurd rfl (hne vs)
 exact hid
def zOC{g:Look}{ids:List Nat}{x y:AV}(h:[y]=renL g ids [x]):y=ren g ids depth x:=by
 simpa [renL] using h
def zER {C:Cfg} {f:FuncId} {m:Nat} {v v':AV} {h h':Heap} {γ:G} {w:World} {u:Value} (hr:HR γ (nth h) w) (hv:VR γ (nth h) v u) (hx:yU C f m v h=some (v',h')) :
  ∃ γ',HR γ' (nth h') w∧Fr γ w γ' w∧qC γ.imm γ'.imm∧Keep m γ (nth h) γ' (nth h')∧VR γ' (nth h') v' u:=by
 unfold yU at hx;split at hx
 ·split at hx
  ·rename_i y h1 hc;cases hx;obtain⟨ids,h1,h2,h3,h4⟩:=zED hr hc;refine⟨_,h1,.sub _ _ _,.refl _,h2,?_⟩;rw[zOC h3];exact h4 depth _ _ hv
  cases hx
 split at hx
 ·rename_i y h1 hc;cases hx;obtain⟨γ1,e1,hr1,f1,_⟩:=zDx hr (uE (nth h) (qO (nth h) v));have hs:=kI (p:=xB (nth h) (qO (nth h) v)) (Same.refl (nth h));have e2:=hs.ext γ1;have hv1:VR γ1 (upd (nth h) (xB (nth h) (qO (nth h) v))) (jV (nth h) v) u :=
   zRH hr1 (fun id hid s ver frz es hg=>(uE (nth h) _).upd_eq hg ⟨_,zDM hg hid⟩) (hv.mono e1)
  obtain⟨ids,h1,h2,h3,h4⟩:=zED (hr1.same hs) hc;refine⟨_,h1,f1.trans (.sub _ _ _),e1.imm,((e1.trans e2).keep m).trans h2,?_⟩;rw[zOC h3];exact h4 depth _ _ (hv1.mono e2)
 cases hx
def zH4(t:Nat):∀(l:List AV) (i:Nat),get (zV i l) t=if i≤t then (l[t - i]?).getD .unk else .unk
 |[],i=>by simp [zV,get]
 |v::l,i=>by
  simp only[zV,get];cases hb:Nat.beq i t with
  |true=>have:=Nat.eq_of_beq_eq_true hb;subst this;simp
  |false =>
   have:=Nat.ne_of_beq_eq_false hb;simp only;rw[zH4 t l (i+1)]
   by_cases h1:i+1≤t
   ·have:t - i=(t - (i+1))+1:=by omega
    rw[if_pos h1,if_pos (by omega),this,List.getElem?_cons_succ]
   rw[if_neg h1,if_neg (by omega)]
def zPr {w0 w:World} {γ:G} {h:Heap} {args:List AV} {vs:List Value} {n:Nat} (hn:args.length≤n) (hr:HR γ (nth h) w) (hb:Base w0 γ w) (hv:VRs γ (nth h) args vs) :
  Inv w0 none w.heap.size n γ h (zV 0 args) { tmps:=vs.toArray++Array.replicate (n - vs.toArray.size) undef,defers:=[] } w:=by
 have hk:get (zV 0 args) n=.unk:=by
  rw[zH4];simp only[Nat.zero_le,if_true,Nat.sub_zero];rw[List.getElem?_eq_none hn];rfl
 refine⟨hr,hb,fun t=>?_,by simp;omega,by rw[hk];exact rfl,Nat.le_refl _,fun hh=>by cases hh⟩;rw[zH4];simp only[Nat.zero_le,if_true,Nat.sub_zero];cases hx:args[t]? with
 |none=>exact .unk _
 |some x =>
  have hlt:=zR hx;have hlt':t<vs.length:=by rw[← hv.1];exact hlt
  have hvt:vs[t]?=some vs[t]:=List.getElem?_eq_getElem hlt';have:(vs.toArray++Array.replicate (n - vs.toArray.size) undef).getD t undef=vs[t]:=by
   rw[Array.getD_eq_getD_getElem?,Array.getElem?_append_left (by simpa using hlt')];simp [hlt']
  rw[this];exact hv.2 t x _ hx hvt
def MR(I:Imm):Pn→FrameMode→Prop
 |none,m=>m=.returning
 |some (x,b),m=>∃u,TR I x u∧m=.panicking [{ v:=u,recovered:=b }]
theorem MR.mono{I J:Imm}(hij:qC I J){u:Pn}{m:FrameMode}(h:MR I u m):MR J u m:=by
 match u,h with
 |none,h=>exact h
 |some (x,b),⟨v,h1,h2⟩=>exact⟨v,h1.mono hij,h2⟩
theorem MR.value{γ:G}{g:Look}{u:Pn}{m:FrameMode}(h:MR γ.imm u m):∃v,VR γ g (pnAV u) v∧zE9 v=m:=by
 match u,h with
 |none,h=>exact⟨.pointer none,.t _ _ .nilptr,h.symm⟩
 |some (x,b),⟨v,h1,h2⟩=>exact⟨.agg #[v,.bool b],.agg _ [v,.bool b] rfl (VRs.cons (.t _ _ h1) (VRs.cons (.t _ _ (.bool b)) .nil)).2,h2.symm⟩
theorem MR.of_value{γ:G}{g:Look}{a:AV}{u:Pn}{v:Value}(ha:avPn a=some u)(h:VR γ g a v):MR γ.imm u (zE9 v):=by
 unfold avPn at ha;split at ha
 ·cases ha;have:=h.of_tree;cases this;rfl
 ·cases ha;cases h with
  |agg cs vs hl hh =>
   match vs,hl with
   |[x,y],_ =>
    have h0:=hh 0 _ x rfl rfl;have h1:=(hh 1 _ y rfl rfl).of_tree;cases h1;exact⟨x,h0.of_tree,rfl⟩
 cases ha
theorem MR.settle{I:Imm}{u:Pn}{m:FrameMode}(h:MR I u m):MR I (zC8 u) (Go.settle m):=by
 match u,h with
 |none,h=>rw[show m=.returning from h];rfl
 |some (x,true),⟨v,h1,h2⟩=>rw[h2];rfl
 |some (x,false),⟨v,h1,h2⟩=>rw[h2];exact⟨v,h1,rfl⟩
abbrev Done (γ0:G) (g0:Look) (wE:World) (m:Nat) (h':Heap) (out:Out):Ending→World→Prop :=
 fun e w'=>∃ γ',HR γ' (nth h') w'∧Fr γ0 wE γ' w'∧qC γ0.imm γ'.imm∧Keep m γ0 g0 γ' (nth h')∧Ends γ' (nth h') out e
def zXf{g s:Nat}(hs:s≤xD)(hg:g<s):¬ (xD+g<s)∧xD+g≠vK∧xD+g - xD=g:=by
 unfold xD vK at *;omega
theorem DRel.keep{γ:G}{g:Look}{w w':World}{e:Nat}:∀ {vs:List AV} {ds:List Deferred},(∀d ∈ ds,∀D,d.target=.collected D→w'.heap[D]?=w.heap[D]?)→DRel γ g w e vs ds→DRel γ g w' e vs ds
 |[],[],_,_=>trivial
 |v::vs,d0::ds,hk,h=>by
  refine⟨?_,h.2.1,DRel.keep (fun d hd=>hk d (List.mem_cons_of_mem _ hd)) h.2.2⟩;cases h.1 with
  |mark D h1 h2 h3=>exact .mark D h1 (by rw[hk _ (.head _) D rfl];exact h2) h3
  |call _ _ fv cap hne h1 h2=>exact .call _ _ fv cap hne h1 h2
 |[],_::_,_,h=>h.elim
 |_::_,[],_,h=>h.elim
def zF7 {C:Cfg} {w0:World} {ρ:Oracle} (hρ:xW C.P w0 ρ) (hpr:uV C w0) {f:FuncId} {fn:Func} {m e:Nat} {out:Out} {h':Heap} {γ0:G} {g0:Look} {wE:World} {a:Act} (he:wE.heap.size≤e) (hw0:w0.heap.size≤wE.heap.size) :
  ∀(ds:List AV) (dl:List Deferred) (u:Pn) (md:FrameMode) (T:Env) (h:Heap) (γ:G) (w:World),leave C ρ f fn m ds u T h=some (out,h')→HR γ (nth h) w→Base w0 γ w→ER γ (nth h) T a →
   DRel γ (nth h) w e ds dl→MR γ.imm u md→Fr γ0 wE γ w→qC γ0.imm γ.imm→Keep m γ0 g0 γ (nth h) →
   LeavesInM (Wd none) 0 C.P fn a.tmps (Done γ0 g0 wE m h' out) dl md w
 |[],dl,u,md,T,h,γ,w,hx,hr,hb,her,hd,hm,fr,im,kp=>by
  have hdl:dl=[]:=by cases dl with
   |nil=>rfl
   |cons d ds=>exact hd.elim
  subst hdl
  match u,hm with
  |none,hm =>
   rw[show md=.returning from hm];unfold leave at hx;split at hx
   ·cases hx
   rename_i v hv;split at hx
   ·rename_i v2 h2 hfin;cases hx;obtain⟨uv,hu1,hu2⟩:=zGi (st:=⟨T,h⟩) hr her hv;obtain⟨γ2,k1,k2,k3,k4,k5⟩:=zER hr hu2 hfin;exact⟨uv,hu1,γ2,k1,fr.trans k2,im.trans k3,kp.trans k4,k5⟩
   cases hx
  |some (x,false),⟨uv,h1,h2⟩ =>
   rw[h2];unfold leave at hx;split at hx
   ·rename_i v2 h2' hfin;cases hx;obtain⟨γ2,k1,k2,k3,k4,k5⟩:=zER hr (.t x uv h1) hfin;exact⟨γ2,k1,fr.trans k2,im.trans k3,kp.trans k4,uv,rfl,k5⟩
   cases hx
  |some (x,true),_=>simp [leave] at hx
 |v::ds,dl,u,md,T,h,γ,w,hx,hr,hb,her,hd,hm,fr,im,kp=>by
  cases dl with
  |nil=>exact hd.elim
  |cons d dl =>
   obtain⟨hd1,hdist,hd2⟩:=hd;have hrun:md≠.run:=by
    match u,hm with
    |none,hm=>rw[show md=.returning from hm];simp
    |some (x,b),⟨uv,h1,h2⟩=>rw[h2];simp
   refine⟨hrun,?_⟩;cases hd1 with
   |mark D h1 h2 h3 =>
    -- a loop over a function's mark: nothing waits there
    have hx:leave C ρ f fn m ds u T h=some (out,h'):=by
     rw[← hx];rw[leave]
    refine .inl ⟨D,_,rfl,run_takeDeferred h2,?_⟩;have hDlt:=zIP h2;have hk:∀b,b≠D→(w.putObj D (.deferred none)).heap[b]?=w.heap[b]?:=fun b hb'=>World.putObj_heap_other hb'
    have hr':HR γ (nth h) (w.putObj D (.deferred none)):=by
     refine⟨fun id b hib=>?_,hr.inj,fun b o v hv=>?_⟩
     ·obtain⟨o,ho,hor⟩:=hr.obj id b hib;exact⟨o,ho,hor.mono (.refl _ _) (hk b fun hh=>h3 id (hh ▸ hib)) rfl (fun _=>rfl)⟩
     have hc:=hr.imm b o v hv;have hbD:b≠D:=fun hh=>by
      subst hh;unfold World.cell? at hc;rw[h2] at hc;cases hc
     rw[zAd (hk b hbD)];exact hc
    have f1:Fr γ0 wE γ (w.putObj D (.deferred none)):=by
     refine⟨by rw[World.putObj_size];exact fr.size,fun b hb' hn=>?_,fr.rng,fr.immr,fr.same⟩;rw[hk b (by omega)];exact fr.keep b hb' hn
    have hb':Base w0 γ (w.putObj D (.deferred none)):=by
     refine⟨by rw[World.putObj_size];exact hb.1,fun b hlt=>⟨?_,(hb.2 b hlt).2⟩⟩
     by_cases hbD:b=D
     ·omega
     rw[hk b hbD];exact(hb.2 b hlt).1
    refine zF7 hρ hpr he hw0 ds dl u md T h γ _ hx hr' hb' her ?_ hm f1 im kp;exact hd2.keep fun d' hd' D' hD'=>hk D' fun hh=>hdist D rfl d' hd' (hh ▸ hD')
   |call v d fv cap hne h1 h2 =>
    obtain⟨tg,da⟩:=d;cases v with
    |nov=>exact absurd rfl hne
    |fn g first captured =>
     rw[leave] at hx;split at hx
     ·rename_i hbody;cases h2 with
      |fn _ _ _ us vs hl hl' h3 h4 =>
      have hfirst:VRs γ (nth h) first us:=⟨hl,h3⟩
      have hcap:VRs γ (nth h) captured vs:=⟨hl',h4⟩
      obtain⟨pv,hpv,hmode⟩:=MR.value (γ:=γ) (g:=nth h) hm;have hvs:VRs γ (nth h) (pnAV u::(first++captured)) (pv::(us++vs)):=.cons hpv (hfirst.append hcap);split at hx
      ·rename_i v p hcall;have hck:=zE1 (γ1:=γ) (frz:=[]) hρ hr hb (.refl _ _) hr (.refl _ _) hvs hcall (fun i o hi _=>hr.free hi);have hsz:=hpr.1;have hglt:=zGK hbody;unfold CK at hck;obtain⟨q1,q2,q3⟩:=zXf hsz hglt;rw[if_neg q1,if_neg q2] at hck;obtain⟨pu,ps,epu,hck⟩:=hck;cases epu;rw[q3] at hck;split at hx
       ·rename_i u2 hu2;refine .inr ⟨fun hh=>by simp [Fence.wide] at hh,.func g,vs.toArray,g,(us++vs).toArray,h1,?_,fun _ _=>trivial,?_⟩
        ·dsimp only at h1;rw[h1];simp only[invoke];rw[List.append_toArray];exact zDK hbody
        rw[← hmode];refine CallsDIn.mono hck fun en mm w' ⟨x,ex,vv,hst,γ2,x2,hr2,f2,hen⟩=>?_
        subst ex;have hs:=kI (p:=p) (Same.refl (nth h));have xx:=x2.trans (hs.ext γ2);have hm2:=MR.of_value hu2 hen
        show LeavesInM _ _ _ _ _ _ _ (settle mm) _
        rw[hst];exact zF7 hρ hpr he hw0 ds dl u2 (zE9 vv) T _ γ2 w' hx (hr2.same hs) (hb.mono f2) (her.mono xx) (hd2.mono xx f2) hm2 (fr.trans f2) (im.trans xx.imm) (kp.trans (xx.keep m))
       cases hx
      cases hx
     cases hx
    |_=>cases u<;>simp [leave] at hx
def zKz(w0:World)(e k m:Nat)(γ:G)(g:Look)(w:World)(r:Ex)(st':St)(u':Pn)(c₀:Frame)(cs:List Frame)(Q:Exit→Act→List Frame→World→Prop):Prop :=
 ∀ γ' a' w' md',Inv w0 none e k γ' st'.h st'.T a' w'→MR γ'.imm u' md'→Fr γ w γ' w'→qC γ.imm γ'.imm→Keep m γ g γ' (nth st'.h)→match r with
  |.normal=>Q .normal a' ({ c₀ with mode:=md' }::cs) w'
  |.exit id=>Q (.exit id) a' ({ c₀ with mode:=md' }::cs) w'
  |.ret=>Q .ret a' ({ c₀ with mode:=md' }::cs) w'
  |.pan v=>∀x,VR γ' (nth st'.h) v x→Q (.panic [{ v:=x,recovered:=false }]) a' ({ c₀ with mode:=md' }::cs) w'
theorem zKz.after {w0:World} {e k m:Nat} {γ γ1:G} {g g1:Look} {w w1:World} {r:Ex} {st':St} {u':Pn} {c₀:Frame} {cs:List Frame} {Q:Exit→Act→List Frame→World→Prop}
  (h:zKz w0 e k m γ g w r st' u' c₀ cs Q) (f:Fr γ w γ1 w1) (i:qC γ.imm γ1.imm) (kp:Keep m γ g γ1 g1):zKz w0 e k m γ1 g1 w1 r st' u' c₀ cs Q :=
 fun γ' a' w' md' h1 h2 h3 h4 h5=>h γ' a' w' md' h1 h2 (f.trans h3) (i.trans h4) (kp.trans h5)
def zTm {P:Program} {o:Oper} (h:zIV o.op=true) (ev:Operand→Value) (w:World) :
  (∃v w',(execOp ev o).run P w=.ok (.value v) w')∨∃x w',(execOp ev o).run P w=.halt x w':=by
 have key:∀s:Sem Value,(∃v w',(do pure (Next.value (← s)):Sem Next).run P w=.ok (.value v) w')∨∃x w',(do pure (Next.value (← s)):Sem Next).run P w=.halt x w':=fun s=>by
  rw[Sem.run_bind];cases s.run P w with
  |ok v w'=>exact .inl ⟨v,w',rfl⟩
  |halt x w'=>exact .inr ⟨x,w',rfl⟩
 unfold zIV at h;unfold execOp;split at h<;>rename_i hop<;>simp only[hop]<;>first|exact .inl ⟨_,_,rfl⟩|exact key _|cases h
def zEo {C:Cfg} {w0:World} {ρ:Oracle} (hρ:xW C.P w0 ρ) (hpr:uV C w0) {ops:Array Oper} {e k:Nat} {c₀:Frame} {cs:List Frame} {Q:Exit→Act→List Frame→World→Prop} :
  ∀(rest:List Oper) (i:Nat),ops.toList.drop i=rest→∀(T:Env) (h:Heap) (u:Pn) (γ:G) (a:Act) (w:World) (md:FrameMode) (T':Env) (h':Heap) (u':Pn),
   qN C ρ ops.toList rest T h u=some (T',h',u')→Inv w0 none e k γ h T a w→MR γ.imm u md→qF k rest=true →
   (∀ γ' a' w' md',Inv w0 none e k γ' h' T' a' w'→MR γ'.imm u' md'→Fr γ w γ' w'→Ext γ (nth h) γ' (nth h')→Q .normal a' ({ c₀ with mode:=md' }::cs) w') →
   wpOpsSIn (Wd none) 0 C.P ops Q (List.range' i rest.length) a ({ c₀ with mode:=md }::cs) w
 |[],i,hi,T,h,u,γ,a,w,md,T',h',u',hx,hinv,hm,hd,hpost=>by
  simp only[qN,Option.some.injEq,Prod.mk.injEq] at hx;obtain⟨rfl,rfl,rfl⟩:=hx;simp only[List.length_nil,List.range'_zero,wpOpsSIn];exact hpost γ a w md hinv hm (.refl _ _) (.refl _ _)
 |o::rest,i,hi,T,h,u,γ,a,w,md,T',h',u',hx,hinv,hm,hd,hpost=>by
  obtain⟨hd1,hd2⟩:=zEY hd;have hoi:ops[i]?=some o:=by
   have:(ops.toList.drop i)[0]?=some o:=by rw[hi];rfl
   rw[List.getElem?_drop] at this
   simpa using this
  have hrest:ops.toList.drop (i+1)=rest:=by
   rw[← List.tail_drop,hi];rfl
  simp only[List.length_cons,List.range'_succ,wpOpsSIn,hoi];refine⟨fun _ _=>trivial,?_⟩;unfold qN at hx;split at hx
  ·cases hx
  ·rename_i hw;rw[zDa hinv.er hw];simp only[Bool.false_eq_true,if_false];exact zEo hρ hpr rest (i+1) hrest _ h u γ _ w md T' h' u' hx (hinv.skip hd1) hm hd2 hpost
  rename_i hw;rw[zDa hinv.er hw];simp only[if_true];split at hx
  ·rename_i hrec
   -- recover
   have hrun:(execOp a.eval o).run C.P w=.ok .recover w:=by
    unfold zA4 at hrec;split at hrec
    ·rename_i c hop;split at hrec
     ·rename_i hcal;unfold execOp;simp only[hop];unfold resolve;simp only[hcal,Sem.run_bind,Sem.run_pure,Result.andThen_ok,invoke,builtin]
     cases hrec
    cases hrec
   rw[hrun];simp only;have fin:∀(x:Tree) (uu:Pn) (xv:Value) (md2:FrameMode),recovered u=(x,uu)→TR γ.imm x xv→MR γ.imm uu md2→wpOpsSIn (Wd none) 0 C.P ops Q (List.range' (i+1) rest.length) (a.put o.dst xv) ({ c₀ with mode:=md2 }::cs) w:=by
    intro x uu xv md2 hxu hxv hm2;rw[hxu] at hx;have hinv':Inv w0 none e k γ h (putT T o.dst (.t x)) (a.put o.dst xv) w :=
     ⟨hinv.hr,hinv.base,hinv.er.put (.t x xv hxv) fun d hd'=>Nat.lt_of_lt_of_le (hd1 d hd') hinv.sz,by rw[zHq];exact hinv.sz,by rw[zEZ,zD6 hd1];exact hinv.nd,hinv.ew,fun hh=>by cases hh⟩
    exact zEo hρ hpr rest (i+1) hrest _ h uu γ _ w md2 T' h' u' hx hinv' hm2 hd2 hpost
   match u,hm with
   |none,hm =>
    have:md=.returning:=hm;subst this;exact fin .nilifc none .nilIface .returning rfl .nilifc rfl
   |some (x,false),⟨v,h1,h2⟩ =>
    subst h2;exact fin x (some (x,true)) v (.panicking [{ v:=v,recovered:=true }]) rfl h1 ⟨v,h1,rfl⟩
   |some (x,true),⟨v,h1,h2⟩ =>
    subst h2;exact fin .nilifc (some (x,true)) .nilIface (.panicking [{ v:=v,recovered:=true }]) rfl .nilifc ⟨v,h1,rfl⟩
  split at hx
  ·rename_i hplain;split at hx
   ·rename_i v p he;have hgo:o.wpIn (Wd none) 0 C.P a w (fun a' w'=>∃xv,a'=a.put o.dst xv∧wpOpsSIn (Wd none) 0 C.P ops Q (List.range' (i+1) rest.length) (a.put o.dst xv) ({ c₀ with mode:=md }::cs) w') (fun _ _ _=>False):=by
     refine zF2 (rr:=none) hρ hpr hinv.hr hinv.base hinv.er he (fun i x hi _=>hinv.hr.free hi) fun xv w' γ' x hh f hv=>⟨xv,rfl,?_⟩
     obtain⟨hinv',e'⟩:=hinv.step (o:=o) x hh f hv hd1;exact zEo hρ hpr rest (i+1) hrest _ _ u γ' _ w' md T' h' u' hx hinv' (hm.mono e'.imm) hd2 fun γ'' a'' w'' md'' h0 h1 h2 h3=>hpost γ'' a'' w'' md'' h0 h1 (f.trans h2) (e'.trans h3)
    have hgo:=hgo.2;rw[show o.semAt (Wd none).round a.eval=execOp a.eval o from rfl] at hgo;rcases zTm (P:=C.P) hplain a.eval w with ⟨xv,w',hr⟩|⟨x,w',hr⟩
    ·rw[hr] at hgo ⊢;rw[Oper.uponIn_value] at hgo;obtain⟨xv',e1,e2⟩:=hgo;simp only;rw[e1];exact e2
    rw[hr] at hgo ⊢;cases x<;>exact(hgo:False).elim
   cases hx
  cases hx
def zUE {C:Cfg} {w0:World} {e:Nat} {ρ:Oracle} (hρ:xW C.P w0 ρ) (hpr:uV C w0) (hreg:zCV C ρ w0) (n m k:Nat) (keep:Nat→Option (List Nat)) (c₀:Frame) (cs:List Frame) :
  ∀(c:Code) (st:St) (u:Pn) (r:Ex) (st':St) (u':Pn) (γ:G) (a:Act) (w:World) (md:FrameMode) (Q:Exit→Act→List Frame→World→Prop),
   uK C ρ n m k keep c st u=some (r,st',u')→Inv w0 none e k γ st.h st.T a w→MR γ.imm u md→zKz w0 e k m γ (nth st.h) w r st' u' c₀ cs Q →
   c.wpSIn (Wd none) 0 C.P Q a ({ c₀ with mode:=md }::cs) w:=by
 -- code without recover
 have plain:∀(c:Code) (st:St) (u:Pn) (r:Ex) (st':St) (γ:G) (a:Act) (w:World) (md:FrameMode) (Q:Exit→Act→List Frame→World→Prop),
   exec C ρ n m k keep c st=some (r,st')→Inv w0 none e k γ st.h st.T a w→MR γ.imm u md→zKz w0 e k m γ (nth st.h) w r st' u c₀ cs Q →
   c.wpSIn (Wd none) 0 C.P Q a ({ c₀ with mode:=md }::cs) w:=by
  intro c st u r st' γ a w md Q hx hi hm hp;refine wpSIn_of_wpIn rfl (zFn hρ hpr hreg n m k keep c st r st' γ a w _ hx hi fun γ1 a1 w1 i1 f1 m1 k1=>?_);have:=hp γ1 a1 w1 md i1 (hm.mono m1) f1 m1 k1;cases r<;>exact this
 intro c
 induction c with
 |region id ops draw =>
  intro st u r st' u' γ a w md Q hx hi hm hp;cases draw with
  |true =>
   unfold uK zE3 at hx;split at hx
   ·rename_i e1 st1 h1;cases hx;exact plain _ _ _ _ _ _ _ _ _ _ h1 hi hm hp
   cases hx
  |false =>
   unfold uK zE3 at hx;split at hx
   ·split at hx
    ·rename_i hdst;split at hx
     ·rename_i T h u1 hr;simp only[Option.some.injEq,Prod.mk.injEq] at hx;obtain⟨rfl,rfl,rfl⟩:=hx;refine wpSIn_region ?_;rw[List.range_eq_range'];have:=zEo hρ hpr (Q:=Q) (c₀:=c₀) (cs:=cs) ops.toList 0 rfl st.T st.h u γ a w md T h _ hr hi hm hdst (fun γ' a' w' md' i1 m1 f1 e1=>hp γ' a' w' md' i1 m1 f1 e1.imm (e1.keep m))
      simpa using this
     cases hx
    cases hx
   split at hx
   ·rename_i e1 st1 h1;cases hx;exact plain _ _ _ _ _ _ _ _ _ _ h1 hi hm hp
   cases hx
 |seq x y ihx ihy =>
  intro st u r st' u' γ a w md Q hx hi hm hp;unfold uK zE3 at hx;split at hx
  ·split at hx
   ·rename_i st1 u1 h1;split at hx
    ·rename_i e2 st2 h2;simp only[Option.some.injEq,Prod.mk.injEq] at hx;obtain⟨rfl,rfl,rfl⟩:=hx;refine wpSIn_seq (ihx st u .normal st1 _ γ a w md _ h1 hi hm fun γ1 a1 w1 md1 i1 m1 f1 im1 k1=>?_);exact plain y st1 _ _ _ γ1 a1 w1 md1 Q h2 i1 m1 (hp.after f1 im1 k1)
    cases hx
   rename_i r1 hne;refine wpSIn_seq (ihx st u r st' u' γ a w md _ hx hi hm fun γ1 a1 w1 md1 i1 m1 f1 im1 k1=>?_);have:=hp γ1 a1 w1 md1 i1 m1 f1 im1 k1;cases r with
   |normal=>exact absurd hx (hne st' u')
   |exit id=>exact this
   |ret=>exact this
   |pan v=>exact this
  split at hx
  ·rename_i st1 h1;refine wpSIn_seq (plain x st u .normal st1 γ a w md _ h1 hi hm fun γ1 a1 w1 md1 i1 m1 f1 im1 k1=>?_);exact ihy st1 u r st' u' γ1 a1 w1 md1 Q hx i1 m1 (hp.after f1 im1 k1)
  ·rename_i e1 st1 hne h1;cases hx;refine wpSIn_seq (plain x st u r st' γ a w md _ h1 hi hm fun γ1 a1 w1 md1 i1 m1 f1 im1 k1=>?_);have:=hp γ1 a1 w1 md1 i1 m1 f1 im1 k1;cases r with
   |normal=>exact absurd rfl hne
   |exit id=>exact this
   |ret=>exact this
   |pan v=>exact this
  cases hx
 |_ =>
  intro st u r st' u' γ a w md Q hx hi hm hp;unfold uK zE3 at hx;split at hx
  ·rename_i e1 st1 h1;cases hx;exact plain _ _ _ _ _ _ _ _ _ _ h1 hi hm hp
  cases hx
def zWP {C:Cfg} {w0:World} (hpr:uV C w0) {ρ:Oracle} (ih:xW C.P w0 ρ) (hreg:zCV C ρ w0) (n:Nat) {f:FuncId} {args:List AV} {h:Heap} {out:Out} {h':Heap}
  (hf:nth C.P.funcs.toList f=none) (hfr:f≠vK) (hx:zJh C ρ n (f - xD) args h=some (out,h')):zOj C.P w0 f args h out h':=by
 intro γ w vs hr hb hv;have hnl:¬ f<C.P.funcs.size:=fun hh=>by
  rw[yP] at hf;rw[List.getElem?_eq_getElem (by simpa using hh)] at hf;cases hf
 unfold CK;rw[if_neg hnl,if_neg hfr];unfold zJh at hx;split at hx
 ·cases hx
 rename_i a args;obtain⟨pv,us,rfl,hpv,hus⟩:=hv.cases_cons;split at hx
 ·rename_i u fn hu hfn;rw[yP] at hfn;have hfn':C.P.funcs[f - xD]?=some fn:=by simpa using hfn
  split at hx
  ·cases hx
  rename_i c hc;have hm:=MR.of_value hu hpv;refine⟨pv,us,rfl,callsDIn_of_wpSIn hfn' hc trivial fun c₀ cs hc₀=>?_⟩;have hc0:({ c₀ with mode:=zE9 pv }:Frame)=c₀:=by rw[← hc₀]
  split at hx
  ·rename_i hle;have hle:=Nat.le_of_ble_eq_true hle;have hinv:=zPr hle hr hb hus;have main:∀(r:Ex) (st:St) (u2:Pn),(r=.normal∨r=.ret)→uK C ρ n h.length fn.ntmps (C.keep (f - xD)) c ⟨zV 0 args,h⟩ u=some (r,st,u2) →
     (match yI fn.ntmps st.T,results C.P fn st with
      |some [],some _=>match canon st.h h.length [] with
       |some (_,h)=>some (Out.val (pnAV (zC8 u2)),h)
       |none=>none
      |_,_=>none)=some (out,h') →
     c.wpSIn (Wd none) 0 C.P (bodyPostS C.P fn c₀ cs fun e m w'=>∃x,e=.returned x∧∃v,settle m=zE9 v∧∃ γ',HR γ' (nth h') w'∧Fr γ w γ' w'∧qC γ.imm γ'.imm∧Keep h.length γ (nth h) γ' (nth h')∧Ends γ' (nth h') out (.returned v))
      {tmps:=us.toArray++Array.replicate (fn.ntmps - us.toArray.size) undef,defers:=[] } (c₀::cs) w:=by
    intro r st u2 hr' hex hres;rw[← hc0];refine zUE ih hpr hreg n h.length fn.ntmps (C.keep (f - xD)) c₀ cs c ⟨zV 0 args,h⟩ u r st u2 γ _ w (zE9 pv) _ hex hinv hm fun γ1 a1 w1 md1 i1 m1 f1 im1 k1=>?_
    split at hres
    ·rename_i v hd hv';split at hres
     ·rename_i h2 hcan;simp only[Option.some.injEq,Prod.mk.injEq] at hres;obtain⟨e1,e2⟩:=hres;subst e1;subst e2;obtain⟨xv,hx1,hx2⟩:=zGi i1.hr i1.er hv';obtain⟨ids,g1,g2,g3,g4⟩:=zED i1.hr hcan;have hnd:a1.defers=[]:=by
       have hnd:=i1.nd;unfold yI at hd;split at hd
       ·rename_i hg;rw[hg] at hnd;exact hnd
       ·rename_i ds hg;rw[hg] at hnd;cases hd;have hnd:DRel _ _ _ _ [] a1.defers:=hnd;cases hdl:a1.defers with
        |nil=>rfl
        |cons d ds=>rw[hdl] at hnd;exact hnd.elim
       cases hd
      have hms:=m1.settle;obtain⟨v2,hv2,hmode⟩:=MR.value (γ:=γ1.sub ids) (g:=nth h2) (u:=zC8 u2) (m:=settle md1) hms;have key:a1.defers=[]∧∃u',({ c₀ with mode:=md1 }:Frame)::cs={ c₀ with mode:=u' }::cs∧∃v,(Go.results fn a1.tmps).run C.P w1=.ok v w1 ∧
        ∃x,(Ending.returned v)=.returned x∧∃v,settle u'=zE9 v∧∃ γ',HR γ' (nth h2) w1∧Fr γ w γ' w1∧qC γ.imm γ'.imm∧Keep h.length γ (nth h) γ' (nth h2)∧Ends γ' (nth h2) (.val (pnAV (zC8 u2))) (.returned v) :=
       ⟨hnd,md1,rfl,xv,hx1,xv,rfl,v2,hmode.symm,γ1.sub ids,g1,f1.trans (.sub _ _ _),im1,k1.trans g2,hv2⟩
      rcases hr' with rfl|rfl<;>exact key
     cases hres
    cases hres
   split at hx
   ·rename_i st u2 hex;exact main _ st u2 (.inl rfl) hex hx
   ·rename_i st u2 hex;exact main _ st u2 (.inr rfl) hex hx
   cases hx
  cases hx
 cases hx
def yFN {γ:G} {g:Look} {T:Env} {tmps:Array Value} {p:Nat} {x:AV} {v:Value} (hp:p<tmps.size) (h:∀t,VR γ g (get T t) (tmps.getD t undef)) (hv:VR γ g x v) :
  ∀t,VR γ g (get ((p,x)::T) t) ((tmps.setIfInBounds p v).getD t undef):=by
 intro t;simp only[get];cases hb:Nat.beq p t with
 |true =>
  have:=Nat.eq_of_beq_eq_true hb;subst this;simp only;rw[Array.getD_eq_getD_getElem?,Array.getElem?_setIfInBounds_self_of_lt hp];exact hv
 |false =>
  have:=Nat.ne_of_beq_eq_false hb;simp only;rw[Array.getD_eq_getD_getElem?,Array.getElem?_setIfInBounds_ne this,← Array.getD_eq_getD_getElem?];exact h t
def zM6{γ:G}{g:Look}{k:Nat}:∀ {ps:List Nat} {as:List AV} {us:List Value} {T T1:Env} {tmps:Array Value},zGZ ps as T=some T1→zCO.dstOKL k ps=true→k≤tmps.size→VRs γ g as us →
  (∀t,VR γ g (get T t) (tmps.getD t undef)) →
  us.length=ps.length∧k≤((ps.zip us).foldl (fun tmps (q:Nat×Value)=>tmps.setIfInBounds q.1 q.2) tmps).size∧get T1 k=get T k ∧
   ∀t,VR γ g (get T1 t) (((ps.zip us).foldl (fun tmps (q:Nat×Value)=>tmps.setIfInBounds q.1 q.2) tmps).getD t undef)
 |[],[],us,T,T1,tmps,hs,hd,hk,hv,he=>by
  have:=hv.nil_inv;subst this;cases hs;exact⟨rfl,hk,rfl,he⟩
 |p::ps,a::as,us,T,T1,tmps,hs,hd,hk,hv,he=>by
  obtain⟨u,us',rfl,hu,hus⟩:=hv.cases_cons;unfold zCO.dstOKL at hd;rw[Bool.and_eq_true,Nat.blt_eq] at hd;unfold zGZ at hs;obtain⟨h1,h2,h3,h4⟩:=zM6 (tmps:=tmps.setIfInBounds p u) hs hd.2 (by simpa using hk) hus (yFN (by omega) he hu);refine⟨by simp [h1],h2,?_,h4⟩;rw[h3];simp only[get];cases hb:Nat.beq p k with
  |true=>have:=Nat.eq_of_beq_eq_true hb;omega
  |false=>rfl
 |[],_::_,_,_,_,_,hs,_,_,_,_=>by simp [zGZ] at hs
 |_::_,[],_,_,_,_,hs,_,_,_,_=>by simp [zGZ] at hs
def zV4 {C:Cfg} {w0:World} (hpr:uV C w0) {ρ:Oracle} (ih:xW C.P w0 ρ) (hreg:zCV C ρ w0) (n:Nat) {args:List AV} {h:Heap} {out:Out} {h':Heap}
  (hx:zCO C ρ n args h=some (out,h')):zOj C.P w0 vK args h out h':=by
 intro γ w vs hr hb hv;have hnl:¬ vK<C.P.funcs.size:=by have:=hpr.1;unfold xD at this;unfold vK;omega
 unfold CK;rw[if_neg hnl,if_pos rfl];unfold zCO at hx;split at hx
 ·rename_i id as;split at hx
  ·rename_i c T hobj;split at hx
   ·rename_i T1 hset hok;rw[Bool.and_eq_true,Nat.blt_eq] at hok;obtain⟨yv,us,rfl,hyv,hus⟩:=hv.cases_cons;cases hyv with
    |yld _ L hβ hcur =>
    obtain⟨o,ho,hor⟩:=hr.obj id L hβ;rw[hobj] at ho;cases ho;obtain⟨⟨rc,hrc,hlr⟩,himm⟩:=hor
    -- the environment,with the mark of a round at the uB of the temporaries
    have her0:∀t,VR γ (nth h) (get ((c.k,.rnd)::T) t) (rc.tmps.getD t undef):=fun t=>by
     simp only[get];cases hb:Nat.beq c.k t with
     |true=>exact .rnd _
     |false=>exact hlr.er t
    obtain⟨hlen,hsz,hk1,her⟩:=zM6 (us:=us) (tmps:=rc.tmps) hset hok.2 hlr.sz hus her0;have hk2:get T1 c.k=.rnd:=by rw[hk1];simp only[get,Nat.beq_refl]
    -- the round,as the model begins it
    have hsize:us.toArray.size=rc.params.size:=by
     rw[List.size_toArray,hlen,← hlr.ps,Array.length_toList]
    have hy:=run_yield (P:=C.P) (args:=us.toArray) hrc hsize;have hfold:(rc.params.zip us.toArray).foldl (fun(tmps:Array Value) (x:Nat×Value)=>match x with|(t,a)=>tmps.setIfInBounds t a) rc.tmps=(c.ps.zip us).foldl (fun tmps (q:Nat×Value)=>tmps.setIfInBounds q.1 q.2) rc.tmps:=by
     rw[← Array.foldl_toList,Array.toList_zip,hlr.ps]
    rw[hfold] at hy;generalize htm:(c.ps.zip us).foldl (fun tmps (q:Nat×Value)=>tmps.setIfInBounds q.1 q.2) rc.tmps=tmps at hy hsz her;refine⟨L,us,rc.fn,tmps,rc.assign,rc.body,rfl,hy,fun rr=>?_⟩;have hinv:Inv w0 (some L) w.heap.size c.k γ h T1 { tmps:=tmps,defers:=[] } w :=
     ⟨hr,hb,her,hsz,by rw[hk2];exact rfl,Nat.le_refl _,fun _=>hk2⟩
    split at hx<;>first|(cases hx;done)|skip
    rename_i st hasg;split at hx<;>first|(cases hx;done)|skip
    rename_i c' T' hobj1;split at hx<;>first|(cases hx;done)|skip
    rename_i e st2 hbody;split at hx<;>first|(cases hx;done)|skip
    rename_i jump c2 T2 b2 j2 hend hobj2;split at hx<;>first|(cases hx;done)|skip
    rename_i _ hf hcan;simp only[Option.some.injEq,Prod.mk.injEq] at hx;obtain⟨rfl,rfl⟩:=hx;refine roundIn_of_wpIn (F:=Wd rr) trivial ?_;rw[hlr.asg,hlr.body]
    show c.asg.wpIn (Wd (some L)) 0 C.P _ _ _
    refine zFn ih hpr hreg n h.length c.k (C.keep c.kf) c.asg ⟨T1,h⟩ .normal st γ _ w _ hasg hinv fun γ1 a1 w1 i1 f1 m1 k1=>?_
    -- behind the assignments
    obtain⟨hb1,hc1⟩:=k1.box id L hok.1 hβ hcur;obtain⟨o1,ho1,hor1⟩:=i1.hr.obj id L hb1;rw[hobj1] at ho1;cases ho1;obtain⟨⟨r1,hr1,hl1⟩,_⟩:=hor1;have hready:r1.state=.ready:=by
     have:=hl1.st;cases hs:r1.state<;>rw[hs] at this<;>first|rfl|(simp [zMQ] at this)
    refine⟨_,run_beginRound hr1 hready,?_⟩;obtain⟨x2,hr2,f2⟩:=zJ2 (r':={ r1 with state:=.busy }) (c':=c') (T':=T') (st':=1) (j':=none) i1.hr hb1 hobj1 ⟨hl1.ps,hl1.asg,hl1.body,hl1.sz,rfl,hl1.j,hl1.er⟩;generalize hW:w1.putObj L (.loop { r1 with state:=.busy })=w2 at hr2 f2;have same2:Same (upd (nth st.h) [(id,.loop c' T' 1 none)]) (nth (patch st.h [(id,.loop c' T' 1 none)])):=kI (Same.refl _);have xx2:=x2.trans (same2.ext γ1);have hinv2:Inv w0 (some L) w.heap.size c.k γ1 (patch st.h [(id,.loop c' T' 1 none)]) st.T a1 w2 :=
     ⟨hr2.same same2,i1.base.mono f2,i1.er.mono xx2,i1.sz,i1.nd.mono xx2 f2,Nat.le_trans i1.ew f2.size,i1.ro⟩
    have kp2:=k1.trans (xx2.keep h.length)
    show c.body.wpIn (Wd (some L)) 0 C.P _ _ _
    refine zFn ih hpr hreg n h.length c.k (C.keep c.kf) c.body ⟨st.T,patch st.h [(id,.loop c' T' 1 none)]⟩ e st2 γ1 _ w2 _ hbody hinv2 fun γ3 a3 w3 i3 f3 m3 k3=>?_
    -- behind the body
    have kp3:=kp2.trans k3;obtain⟨hb3,hc3⟩:=kp3.box id L hok.1 hβ hcur;obtain⟨o3,ho3,hor3⟩:=i3.hr.obj id L hb3;rw[hobj2] at ho3;cases ho3;obtain⟨⟨r3,hr3,hl3⟩,_⟩:=hor3;obtain⟨x4,hr4,f4⟩:=zJ2 (r':={ r3 with state:=if jump.isNone then .ready else .done,pending:=jump }) (c':=c2) (T':=T2) (st':=if jump.isNone then 0 else 2) (j':=jump) i3.hr hb3 hobj2
     ⟨hl3.ps,hl3.asg,hl3.body,hl3.sz,by cases jump<;>rfl,rfl,hl3.er⟩
    have same4:Same (upd (nth st2.h) [(id,.loop c2 T2 (if jump.isNone then 0 else 2) jump)]) (nth (patch st2.h [(id,.loop c2 T2 (if jump.isNone then 0 else 2) jump)])):=kI (Same.refl _);have xx4:=x4.trans (same4.ext γ3);obtain⟨ids,g1,g2,g3,g4⟩:=zED (hr4.same same4) hcan;have fin:∃v w',(Instr.endRound L jump).run C.P w3=.ok v w'∧∃ γ',HR γ' (nth hf) w'∧Fr γ w γ' w'∧qC γ.imm γ'.imm∧Keep h.length γ (nth h) γ' (nth hf)∧Ends γ' (nth hf) (.val (.t (.bool jump.isNone))) (.returned v) :=
     ⟨.bool jump.isNone,_,run_endRound jump hr3,γ3.sub ids,g1,(f1.trans (f2.trans (f3.trans f4))).trans (.sub _ _ _),m1.trans (xx2.imm.trans (m3.trans xx4.imm)),(kp3.trans (xx4.keep h.length)).trans g2,.t _ _ (.bool _)⟩
    cases e with
    |normal=>cases hend;exact fin
    |ret=>cases hend;exact fin
    |exit id'=>cases hend;exact fin
    |pan v=>cases hend
   cases hx
  cases hx
 cases hx
def zVU{C:Cfg}{w0:World}(hpr:uV C w0)(hreg:∀ ρ,xW C.P w0 ρ→zCV C ρ w0){ρ:Oracle}(ih:xW C.P w0 ρ)(n:Nat):xW C.P w0 (zDp C ρ n) :=
 fun f args h out h' hx=>by
  unfold zDp at hx;split at hx
  ·rename_i hnone;split at hx
   ·rename_i hb;have:=Nat.eq_of_beq_eq_true hb;subst this;exact zV4 hpr ih (hreg _ ih) n hx
   rename_i hb;split at hx
   ·exact zWP hpr ih (hreg _ ih) n hnone (Nat.ne_of_beq_eq_false hb) hx
   cases hx
  rename_i fn hfn;rw[yP] at hfn;have hfn':C.P.funcs[f]?=some fn:=by simpa using hfn
  split at hx
  ·cases hx
  rename_i c hc;split at hx
  ·rename_i hle;have hle:=Nat.le_of_ble_eq_true hle;intro γ w vs hr hb hv;unfold CK;rw[if_pos (Array.getElem?_eq_some_iff.1 hfn').1];refine(zHn (r:=none) (n:=0)).1 (callsIn_of_wp_marks hfn' hc trivial ?_);have hinv:=zPr hle hr hb hv;have hw0:w0.heap.size≤w.heap.size:=hb.1
   -- nothing waits
   have none_waits:∀ {T:Env} {γ1:G} {g1:Look} {w1:World} {ds:List Deferred},yI fn.ntmps T=some []→DR γ1 g1 w1 w.heap.size (get T fn.ntmps) ds→ds=[]:=fun {T γ1 g1 w1 ds} hd hnd=>by
    unfold yI at hd;split at hd
    ·rename_i hg;rw[hg] at hnd;exact hnd
    ·rename_i ds' hg;rw[hg] at hnd;cases hd;have hnd:DRel _ _ _ _ [] ds:=hnd;cases ds with
     |nil=>rfl
     |cons d ds=>exact hnd.elim
    cases hd
   have waits:∀ {T:Env} {γ1:G} {g1:Look} {w1:World} {dl:List Deferred} {ds:List AV},yI fn.ntmps T=some ds→DR γ1 g1 w1 w.heap.size (get T fn.ntmps) dl→DRel γ1 g1 w1 w.heap.size ds dl:=fun {T γ1 g1 w1 dl ds} hd hnd=>by
    unfold yI at hd;split at hd
    ·rename_i hg;rw[hg] at hnd;cases hd;rw[show dl=[] from hnd];trivial
    ·rename_i ds' hg;rw[hg] at hnd;cases hd;exact hnd
    cases hd
   have val:∀(r:Ex) (st:St),(r=.normal∨r=.ret)→(match yI fn.ntmps st.T with
      |some []=>match results C.P fn st with
       |none=>none
       |some v=>match yU C f h.length v st.h with
        |some (v,h)=>some (Out.val v,h)
        |none=>none
      |some ds=>leave C ρ f fn h.length ds none st.T st.h
      |none=>none)=some (out,h') →
     exec C ρ n h.length fn.ntmps (C.keep f) c ⟨zV 0 args,h⟩=some (r,st) →
     Code.wpIn (Wd none) 0 C.P c (bodyPostM (Wd none) 0 C.P fn (Done γ (nth h) w h.length h' out)) { tmps:=vs.toArray++Array.replicate (fn.ntmps - vs.toArray.size) undef,defers:=[] } w:=by
    intro r st hr' hres hex;refine zFn ih hpr (hreg _ ih) n h.length fn.ntmps (C.keep f) c ⟨zV 0 args,h⟩ r st γ _ w _ hex hinv fun γ1 a1 w1 i1 f1 m1 k1=>?_
    have key:LeavesInM (Wd none) 0 C.P fn a1.tmps (Done γ (nth h) w h.length h' out) a1.defers .returning w1:=by
     split at hres
     ·rename_i hd;rw[none_waits hd i1.nd];split at hres
      ·cases hres
      rename_i v hv';split at hres
      ·rename_i v2 h2 hfin;simp only[Option.some.injEq,Prod.mk.injEq] at hres;obtain⟨rfl,rfl⟩:=hres;obtain⟨u,hu1,hu2⟩:=zGi i1.hr i1.er hv';obtain⟨γ2,g1,g2,g3,g4,g5⟩:=zER i1.hr hu2 hfin;exact⟨u,hu1,γ2,g1,f1.trans g2,m1.trans g3,k1.trans g4,g5⟩
      cases hres
     ·rename_i ds _ hd;exact zF7 ih hpr (Nat.le_refl _) hw0 ds a1.defers none .returning st.T st.h γ1 w1 hres i1.hr i1.base i1.er (waits hd i1.nd) rfl f1 m1 k1
     cases hres
    rcases hr' with rfl|rfl<;>exact key
   unfold zCG at hx;split at hx
   ·rename_i st hex;exact val _ st (.inl rfl) hx hex
   ·rename_i st hex;exact val _ st (.inr rfl) hx hex
   ·rename_i v st hex;refine zFn ih hpr (hreg _ ih) n h.length fn.ntmps (C.keep f) c ⟨zV 0 args,h⟩ (.pan v) st γ _ w _ hex hinv fun γ1 a1 w1 i1 f1 m1 k1 u hu=>?_
    show LeavesInM (Wd none) 0 C.P fn a1.tmps (Done γ (nth h) w h.length h' out) a1.defers (.panicking [{ v:=u,recovered:=false }]) w1
    split at hx
    ·rename_i hd;rw[none_waits hd i1.nd];split at hx
     ·rename_i v2 h2 hfin;simp only[Option.some.injEq,Prod.mk.injEq] at hx;obtain⟨rfl,rfl⟩:=hx;obtain⟨γ2,g1,g2,g3,g4,g5⟩:=zER i1.hr hu hfin;exact⟨γ2,g1,f1.trans g2,m1.trans g3,k1.trans g4,u,rfl,g5⟩
     cases hx
    ·rename_i ds _ hd;split at hx
     ·rename_i x;exact zF7 ih hpr (Nat.le_refl _) hw0 ds a1.defers (some (x,false)) _ st.T st.h γ1 w1 hx i1.hr i1.base i1.er (waits hd i1.nd) ⟨u,hu.of_tree,rfl⟩ f1 m1 k1
     cases hx
    cases hx
   cases hx
  cases hx
def zOt{C:Cfg}{w0:World}(hpr:uV C w0)(hreg:∀ ρ,xW C.P w0 ρ→zCV C ρ w0):∀n,xW C.P w0 (zBy C n)
 |0=>fun f args h out h' hx=>by simp [zBy] at hx
 |n+1=>zVU hpr hreg (zOt hpr hreg n) n
def Ag(g g':Look)(l:List Nat):Prop:=∀id ∈ l,g' id=g id
theorem Ag.left{g g':Look}{l l':List Nat}(h:Ag g g' (l++l')):Ag g g' l:=fun id hid=>h id (List.mem_append_left _ hid)
theorem Ag.right{g g':Look}{l l':List Nat}(h:Ag g g' (l++l')):Ag g g' l':=fun id hid=>h id (List.mem_append_right _ hid)
theorem Ag.one{g g':Look}{id:Nat}(h:Ag g g' [id]):g' id=g id:=h id (.head _)
theorem Ag.catMap{α:Type}{g g':Look}{f:α→List Nat}{l:List α}(h:Ag g g' (Ab.catMap f l)){x:α}(hx:x ∈ l):Ag g g' (f x) :=
 fun id hid=>h id (wD.2 ⟨x,hx,hid⟩)
def wN{α β:Type}{f f':α→List β}:∀ {l:List α},(∀x ∈ l,f' x=f x)→catMap f' l=catMap f l
 |[],_=>rfl
 |a::l,h=>by simp only[catMap];rw[h a (.head _),wN fun x hx=>h x (List.mem_cons_of_mem _ hx)]
def zIz{id:Nat}:∀ {p:Patch} {g g':Look},g' id=g id→upd g' p id=upd g p id
 |[],g,g',h=>h
 |(i,o)::p,g,g',h=>by
  unfold upd;refine zIz ?_;cases Nat.beq id i with
  |true=>rfl
  |false=>exact h
def zD2{g g':Look}{id ver:Nat}(h:g' id=g id):fresh g' id ver=fresh g id ver:=by unfold fresh;rw[h]
def zCa{g g':Look}:∀(d:Nat) (v:AV),Ag g g' (names d v)→refs g' d v=refs g d v
 |0,v,_=>rfl
 |d+1,v,h=>by
  cases v with
  |el id ver i off=>simp only[refs];rw[zD2 h.one]
  |hs id ver=>simp only[refs];rw[zD2 h.one]
  |hsub id ver lo len=>simp only[refs];rw[zD2 h.one]
  |agg cs=>exact wN fun c hc=>zCa d c (h.catMap hc)
  |fn f a b =>
   simp only[refs];rw[wN fun c hc=>zCa d c ((Ag.left h).catMap hc),wN fun c hc=>zCa d c ((Ag.right h).catMap hc)]
  |tup vs=>exact wN fun c hc=>zCa d c (h.catMap hc)
  |dfr vs=>exact wN fun c hc=>zCa d c (h.catMap hc)
  |ifv t v=>exact zCa d v h
  |_=>rfl
def zJ0{g g':Look}{vs:List AV}(h:Ag g g' (zAg vs)):wQ g' vs=wQ g vs :=
 wN fun v hv=>zCa depth v (Ag.catMap h hv)
def zVF{g g':Look}{o:Obj}(h:Ag g g' (zHW o)):vY g' o=vY g o:=by
 cases o with
 |box cs=>exact zJ0 h
 |marr s ver es=>exact wN fun e he=>zJ0 (Ag.catMap h he)
 |map es=>exact wN fun e he=>zCa depth e.2 (Ag.catMap (f:=fun e:Tree×AV=>names depth e.2) h he)
 |loop c T b j=>exact wN fun e he=>zCa depth e.2 (Ag.catMap (f:=fun e:Nat×AV=>names depth e.2) h he)
 |_=>rfl
def zDu{g g':Look}{ids:List Nat}:∀(d:Nat) (v:AV),Ag g g' (names d v)→ren g' ids d v=ren g ids d v
 |0,v,_=>rfl
 |d+1,v,h=>by
  cases v with
  |el id ver i off=>simp only[ren];rw[zD2 h.one]
  |hs id ver=>simp only[ren];rw[zD2 h.one]
  |hsub id ver lo len=>simp only[ren];rw[zD2 h.one]
  |agg cs=>simp only[ren];rw[List.map_congr_left fun c hc=>zDu d c (Ag.catMap h hc)]
  |fn f a b =>
   simp only[ren];rw[List.map_congr_left fun c hc=>zDu d c ((Ag.left h).catMap hc),List.map_congr_left fun c hc=>zDu d c ((Ag.right h).catMap hc)]
  |tup vs=>simp only[ren];rw[List.map_congr_left fun c hc=>zDu d c (Ag.catMap h hc)]
  |dfr vs=>simp only[ren];rw[List.map_congr_left fun c hc=>zDu d c (Ag.catMap h hc)]
  |ifv t v=>simp only[ren];rw[zDu d v h]
  |_=>rfl
def zL4{g g':Look}{ids:List Nat}{vs:List AV}(h:Ag g g' (zAg vs)):renL g' ids vs=renL g ids vs :=
 List.map_congr_left fun v hv=>zDu depth v (Ag.catMap h hv)
def zYk{g g':Look}{ids:List Nat}{o:Obj}(h:Ag g g' (zHW o)):renO g' ids o=renO g ids o:=by
 cases o with
 |box cs=>simp only[renO];rw[zL4 h]
 |marr s ver es=>simp only[renO];rw[List.map_congr_left fun e he=>zL4 (Ag.catMap h he)]
 |map es =>
  simp only[renO]
  congr 1
  refine List.map_congr_left fun e he=>?_
  rw[zDu depth e.2 (Ag.catMap (f:=fun e:Tree×AV=>names depth e.2) h he)]
 |loop c T b j =>
  simp only[renO]
  congr 1
  refine List.map_congr_left fun e he=>?_
  rw[zDu depth e.2 (Ag.catMap (f:=fun e:Nat×AV=>names depth e.2) h he)]
 |_=>rfl
def zKo{g g':Look}:∀(n:Nat) (todo acc r:List Nat),reach g n todo acc=some r→Ag g g' r→Ag g g' (catMap (zGA g) r)→reach g' n todo acc=some r
 |0,_,_,_,h,_,_=>by simp [reach] at h
 |_+1,[],acc,r,h,_,_=>by simpa [reach] using h
 |n+1,id::todo,acc,r,h,h1,h2=>by
  unfold reach at h ⊢;split at h
  ·rename_i hm;exact zKo n _ _ _ h h1 h2
  rename_i hm;split at h
  ·rename_i o ho;obtain⟨t,ht⟩:=zDG _ _ _ _ h;have hid:id ∈ r:=by rw[ht];simp
   have hn:Ag g g' (zHW o):=by
    have:=Ag.catMap h2 hid;unfold zGA at this;rw[ho] at this;exact this
   rw[h1 id hid,ho];simp only;rw[zVF hn];exact zKo n _ _ _ h h1 h2
  cases h
def zQr{g g':Look}{ids:List Nat}:∀ {l:List Nat} {r:Heap},sub1 g ids l=some r→Ag g g' l→Ag g g' (catMap (zGA g) l)→sub1 g' ids l=some r
 |[],r,h,_,_=>h
 |id::l,r,h,h1,h2=>by
  unfold sub1 at h ⊢;split at h
  ·cases h
  rename_i o ho;have hn:Ag g g' (zHW o):=by
   have:=Ag.catMap h2 (List.mem_cons_self ..);unfold zGA at this;rw[ho] at this;exact this
  rw[h1 id (.head _),ho];simp only;split at h
  ·cases h
  rename_i os hos;rw[zQr hos (fun i hi=>h1 i (List.mem_cons_of_mem _ hi)) (fun i hi=>h2 i (by
   obtain⟨x,hx,hix⟩:=wD.1 hi;exact wD.2 ⟨x,List.mem_cons_of_mem _ hx,hix⟩)),zYk hn]
  exact h
def zM9{g g':Look}:∀ {ids:List Nat},Ag g g' ids→vO g' ids=vO g ids
 |[],_=>rfl
 |id::ids,h=>by
  simp only[vO];rw[h id (.head _),zM9 fun i hi=>h i (List.mem_cons_of_mem _ hi)]
def zIc {ρ:Oracle} {g g':Look} {frz:Patch} {nid:Nat} {f:FuncId} {args:List AV} {r:Out×Patch} (h:uC ρ g frz nid f args=some r) (h1:Ag g g' (zAg args))
  (h2:Ag g g' (zIh g args)):uC ρ g' frz nid f args=some r:=by
 unfold uC at h ⊢;unfold zIh at h2;split at h
 ·cases h
 rename_i ids hids;rw[hids] at h2;simp only at h2;rw[zJ0 h1,zKo _ _ _ _ hids h2.left h2.right];simp only;split at h
 ·cases h
 rename_i hh hs;have:Ab.sub g' ids=some hh:=zQr hs h2.left h2.right;rw[this];simp only;rw[zL4 h1];have himp:∀v h',xL g' frz nid ids v h'=xL g frz nid ids v h':=fun v h'=>by
  unfold xL;rw[zM9 h2.left]
 split at h
 ·cases h
 ·rename_i v h' hρ;rw[himp];exact h
 rename_i v h' hρ;rw[himp];exact h
def zCx{g g':Look}{id ver:Nat}(h:g' id=g id):elems g' (.hs id ver)=elems g (.hs id ver):=by simp only[elems];rw[h]
def zBc{g g':Look}{id ver lo len:Nat}(h:g' id=g id):elems g' (.hsub id ver lo len)=elems g (.hsub id ver lo len):=by simp only[elems];rw[h]
def zOS{g g':Look}{x:AV}(h:Ag g g' (names depth x)):elems g' x=elems g x:=by
 cases x with
 |hs id ver=>exact zCx h.one
 |hsub id ver lo len=>exact zBc h.one
 |t x=>cases x<;>rfl
 |_=>rfl
def zMj{g g':Look}{x:AV}(h:Ag g g' (names depth x)):view g' x=view g x:=by
 cases x with
 |hs id ver=>simp only[view];rw[zCx h.one]
 |hsub id ver lo len=>simp only[view];rw[zBc h.one]
 |agg cs =>
  simp only[view]
  congr 1
  refine List.map_congr_left fun c hc=>?_
  have hc':=Ag.catMap h hc;cases c with
  |hs id ver=>simp only;rw[zCx hc'.one]
  |hsub id ver lo len=>simp only;rw[zBc hc'.one]
  |_=>rfl
 |_=>rfl
def zIj{g g':Look}{x:AV}(h:Ag g g' (names depth x)):yO g' x=yO g x:=by
 cases x with
 |hs id ver=>simp only[yO];rw[zCx h.one]
 |hsub id ver lo len=>simp only[yO];rw[zBc h.one]
 |agg cs =>
  refine wN fun c hc=>?_
  have hc':=Ag.catMap h hc;cases c with
  |hs id ver=>simp only;rw[zCx hc'.one]
  |hsub id ver lo len=>simp only;rw[zBc hc'.one]
  |_=>rfl
 |_=>rfl
def zGS{g:Look}{x:AV}:∀id ∈ yO g x,id ∈ names depth x:=by
 intro i hi;cases x with
 |hs id ver=>simp only[yO] at hi;split at hi<;>simp_all [names,depth]
 |hsub id ver lo len=>simp only[yO] at hi;split at hi<;>simp_all [names,depth]
 |agg cs =>
  obtain⟨c,hc,hic⟩:=wD.1 hi;refine wD.2 ⟨c,hc,?_⟩;cases c with
  |hs id ver=>simp only at hic;split at hic<;>simp_all [names]
  |hsub id ver lo len=>simp only at hic;split at hic<;>simp_all [names]
  |_=>cases hic
 |_=>cases hi
def zFJ{g g':Look}:∀ {l:List Nat},Ag g g' l→xB g' l=xB g l
 |[],_=>rfl
 |id::l,h=>by
  simp only[xB];rw[h id (.head _),zFJ fun i hi=>h i (List.mem_cons_of_mem _ hi)]
def zRf{g:Look}{x:AV}:∀id ∈ names depth (view g x),id ∈ names depth x:=by
 intro i hi;cases x with
 |hs id ver=>simp only[view] at hi;split at hi<;>simp_all [names,depth]
 |hsub id ver lo len=>simp only[view] at hi;split at hi<;>simp_all [names,depth]
 |agg cs =>
  simp only[view,mkAgg] at hi;split at hi
  ·cases hi
  obtain⟨c',hc',hic⟩:=wD.1 hi;obtain⟨c,hc,rfl⟩:=List.mem_map.1 hc';refine wD.2 ⟨c,hc,?_⟩;cases c with
  |hs id ver=>simp only at hic;split at hic<;>simp_all [names]
  |hsub id ver lo len=>simp only at hic;split at hic<;>simp_all [names]
  |_=>exact hic
 |_=>exact hi
def zPC{g:Look}{vs:List AV}:∀id ∈ zAg (vs.map (view g)),id ∈ zAg vs:=by
 intro i hi;obtain⟨c',hc',hic⟩:=wD.1 hi;obtain⟨c,hc,rfl⟩:=List.mem_map.1 hc';exact wD.2 ⟨c,hc,zRf i hic⟩
def zN7 {C:Cfg} {ρ:Oracle} {g g':Look} {nid:Nat} {f:FuncId} {args:List AV} {r:Out×Patch} (h:zAk C ρ g nid f args=some r) (ha:Ag g g' (zI0 C g f args)) :
  zAk C ρ g' nid f args=some r:=by
 unfold zAk at h ⊢;unfold zI0 at ha;cases hb:C.byRef f with
 |true =>
  rw[hb] at h ha;simp only at h ha ⊢;split at h
  ·exact zIc h ha.left ha.right
  cases h
 |false =>
  rw[hb] at h ha;simp only at h ha ⊢;have h1:=ha.left;have hview:args.map (view g')=args.map (view g):=List.map_congr_left fun x hx=>zMj (Ag.catMap h1 hx)
  have hvd:catMap (yO g') args=catMap (yO g) args:=wN fun x hx=>zIj (Ag.catMap h1 hx)
  have hfz:xB g' (catMap (yO g) args)=xB g (catMap (yO g) args):=zFJ fun i hi=>by
   obtain⟨x,hx,hix⟩:=wD.1 hi;exact h1 i (wD.2 ⟨x,hx,zGS i hix⟩)
  rw[hview,hvd,hfz];have h2:=ha.right;cases hp:C.prim f (args.map (view g)) with
  |some v=>rw[hp] at h;exact h
  |none =>
   rw[hp] at h h2;simp only at h h2 ⊢;split at h
   ·exact zIc h (fun i hi=>zIz (h1 i (zPC i hi))) (fun i hi=>zIz (h2 i hi))
   cases h
def zH3{T T':Env}:∀ {l:List Operand},(∀x ∈ l,zM T' x=zM T x)→opds T' l=opds T l
 |[],_=>rfl
 |x::l,h=>by simp only[opds];rw[h x (.head _),zH3 fun y hy=>h y (List.mem_cons_of_mem _ hy)]
def zL0{T T':Env}:∀ {l:List (Nat×Operand)},(∀x ∈ l.map (·.2),zM T' x=zM T x)→qA T' l=qA T l
 |[],_=>rfl
 |(i,x)::l,h=>by
  simp only[qA];rw[h x (by simp),zL0 fun y hy=>h y (by simp only[List.map_cons,List.mem_cons];exact .inr hy)]
def zMm{T T':Env}{b:Option Operand}(h:∀x,b=some x→zM T' x=zM T x):bound T' b=bound T b:=by
 cases b with
 |none=>rfl
 |some x=>simp only[bound];rw[h x rfl]
def zZx{C:Cfg}{ρ:Oracle}{g:Look}{nid:Nat}{T T':Env}{o:Oper}(h:∀x ∈ o.op.operands.toList,zM T' x=zM T x):exec1 C ρ g nid T' o=exec1 C ρ g nid T o:=by
 unfold exec1;cases hop:o.op<;>rw[hop] at h<;>(try simp only[Op.operands] at h)<;>(try simp only)
 case move x=>rw[h x (by simp)]
 case assign x=>rw[h x (by simp)]
 case pick c a b=>rw[h c (by simp),h a (by simp),h b (by simp)]
 case box e x=>rw[h x (by simp)]
 case build t ps=>rw[zL0 fun x hx=>h x (by simpa using hx)]
 case buildSlice t n ps=>rw[zL0 fun x hx=>h x (by simpa using hx)]
 case load t a=>rw[h a (by simp)]
 case store t a x=>rw[h a (by simp),h x (by simp)]
 case nilCheck x=>rw[h x (by simp)]
 case binOp op t x y ty=>rw[h x (by simp),h y (by simp)]
 case unOp op t x=>rw[h x (by simp)]
 case convert s d x=>rw[h x (by simp)]
 case makeFunc fn a b =>
  cases fn with
  |func f=>simp only;rw[zH3 fun x hx=>h x (by simp;exact .inl (by simpa using hx)),zH3 fun x hx=>h x (by simp;exact .inr (by simpa using hx))]
  |_=>rfl
 case makeSlice t l c=>rw[h l (by simp),h c (by simp)]
 case slice t x lo hi mx =>
  unfold zBR;rw[h x (by simp),zMm fun y hy=>h y (by subst hy;simp),zMm fun y hy=>h y (by subst hy;simp),zMm fun y hy=>h y (by subst hy;simp)]
 case fieldAddr s x f=>rw[h x (by simp)]
 case field s x f=>rw[h x (by simp)]
 case indexAddr t x i=>rw[h x (by simp),h i (by simp)]
 case index t x i=>rw[h x (by simp),h i (by simp)]
 case range t x=>rw[h x (by simp)]
 case next x b =>
  cases b with
  |true=>simp only;rw[h x (by simp)]
  |false=>rfl
 case extract t i=>rw[h t (by simp)]
 case call c =>
  unfold qS;unfold Call.operands at h;cases hc:c.callee with
  |value f =>
   rw[hc] at h;simp only at h ⊢;rw[h f (by simp),zH3 fun x hx=>h x (by simp;exact .inr (by simpa using hx))]
  |builtin b =>
   rw[hc] at h;simp only at h ⊢;have e:opds T' c.args.toList=opds T c.args.toList:=zH3 fun x hx=>h x (by simpa using hx)
   cases b<;>simp only[e]
  |invoke r m=>rfl
 case makeInterface t x=>rw[h x (by simp)]
 case typeAssert x a t ok=>rw[h x (by simp)]
 case panic x=>rw[h x (by simp)]
 case lookup t x i ok=>rw[h x (by simp),h i (by simp)]
 case insert t m k v=>rw[h m (by simp),h k (by simp),h v (by simp)]
 case mapUpdate t m k v=>rw[h m (by simp),h k (by simp),h v (by simp)]
 case makeMap t r=>cases r<;>rfl
def zNX{g g':Look}{n:Nat}{a:AV}(h:Ag g g' (names depth a)):loadCells g' n a=loadCells g n a:=by
 cases a with
 |box id off=>simp only[loadCells];rw[h.one]
 |el id ver i off=>simp only[loadCells];rw[h.one]
 |_=>rfl
def zRL{g g':Look}{a:AV}{cs:List AV}(h:Ag g g' (names depth a)):storeAt g' a cs=storeAt g a cs:=by
 cases a with
 |box id off=>simp only[storeAt];rw[h.one]
 |el id ver i off=>simp only[storeAt];rw[h.one]
 |_=>rfl
def zTd{g g':Look}{x:AV}(h:Ag g g' (names depth x)):qB g' x=qB g x:=by
 unfold qB;rw[zMj h,zIj h,zFJ fun i hi=>h i (zGS i hi)]
def zHI{g g':Look}:∀ {l:List (Nat×AV)},Ag g g' (zAg (l.map (·.2)))→yV g' l=yV g l
 |[],_=>rfl
 |(i,v)::l,h=>by
  have h1:Ag g g' (names depth v):=Ag.catMap (f:=names depth) (l:=((i,v)::l).map (·.2)) h (by simp);simp only[yV];rw[zHI (l:=l) fun id hid=>h id (by
   obtain⟨x,hx,hix⟩:=wD.1 hid;exact wD.2 ⟨x,by simp only[List.map_cons,List.mem_cons];exact .inr hx,hix⟩),zMj h1,zIj h1,zFJ fun i hi=>h1 i (zGS i hi)]
def zVX{g g':Look}{x:AV}(h:Ag g g' (names depth x)):lenOf g' x=lenOf g x:=by
 cases x with
 |hs id ver=>simp only[lenOf];rw[h.one]
 |t x=>cases x<;>rfl
 |_=>rfl
def zXb{g g':Look}{x:AV}(h:Ag g g' (names depth x)):added g' x=added g x:=by
 unfold added;split
 ·rfl
 exact zOS h
def zVG{P:Program}{g g':Look}{t:TypeId}{x:AV}{lo hi mx:Option Int}(h:Ag g g' (names depth x)):slice P g' t x lo hi mx=slice P g t x lo hi mx:=by
 unfold slice;cases und P t with
 |none=>rfl
 |some d =>
  cases x with
  |hs id ver=>cases d<;>first|rfl|(simp only;rw[h.one])
  |hsub id ver a b=>cases d<;>first|rfl|(simp only;rw[h.one])
  |t x=>cases d<;>cases x<;>rfl
  |_=>cases d<;>rfl
def zOm{P:Program}{g g':Look}{t:TypeId}{x:AV}{i:Int}(h:Ag g g' (names depth x)):indexAddr P g' t x i=indexAddr P g t x i:=by
 unfold indexAddr;cases und P t with
 |none=>rfl
 |some d =>
  cases x with
  |hs id ver=>cases d<;>first|rfl|(simp only;rw[h.one])
  |hsub id ver a b=>cases d<;>first|rfl|(simp only;rw[h.one])
  |t x=>cases d<;>cases x<;>rfl
  |_=>cases d<;>rfl
def zS8{P:Program}{g g':Look}{nid:Nat}{t t':TypeId}{s x:AV}(h:Ag g g' (names depth s))(h':Ag g g' (names depth x)):append P g' nid t t' s x=append P g nid t t' s x:=by
 unfold append;rw[zXb h'];cases s with
 |hs id ver=>simp only[h.one]
 |t x=>cases x<;>rfl
 |_=>rfl
def zSr{P:Program}{g g':Look}{nid:Nat}{s d:TypeId}{x:AV}(h:Ag g g' (names depth x)):convert P g' nid s d x=convert P g nid s d x:=by
 have e:=zOS h;unfold convert;split
 ·rfl
 ·rfl
 ·rfl
 ·rw[e]
 rfl
def zPi{g g':Look}{x:AV}(h:Ag g g' (names depth x)):vW g' x=vW g x:=by
 cases x with
 |mp id=>simp only[vW];rw[h.one]
 |t x=>cases x<;>rfl
 |_=>rfl
def zSf{P:Program}{g g':Look}{t:TypeId}{x i:AV}{ok:Bool}(h:Ag g g' (names depth x)):kQ P g' t x i ok=kQ P g t x i ok:=by
 unfold kQ;rw[zPi h]
def zLp{P:Program}{g g':Look}{t:TypeId}{x i v:AV}(h:Ag g g' (names depth x)):qM P g' t x i v=qM P g t x i v:=by
 unfold qM;cases und P t with
 |none=>rfl
 |some d =>
  cases d with
  |map key elem =>
   cases x with
   |mp id =>
    cases i with
    |t k =>
     have h1:g' id=g id:=h.one;simp only[h1]
    |_=>rfl
   |_=>rfl
  |_=>rfl
def zWE {C:Cfg} {ρ:Oracle} {g g':Look} {nid:Nat} {T:Env} {o:Oper} {r:Out×Patch} (h:exec1 C ρ g nid T o=some r) (ha:Ag g g' (foot C g T o)) :
  exec1 C ρ g' nid T o=some r:=by
 unfold exec1 at h ⊢;unfold foot at ha;cases hop:o.op<;>rw[hop] at h ha<;>(try simp only at h ha ⊢)<;>try exact h
 case makeFunc fn a b=>cases fn<;>exact h
 case buildSlice t n ps =>
  unfold wI at h ⊢;rw[zHI ha];exact h
 case load t a =>
  unfold load at h ⊢;simp only[zNX ha];exact h
 case store t a x =>
  have h1:=zTd ha.right;unfold uQ at h ⊢;have h2:(match zM T a with
    |.el _ _ _ _=>qB g' (zM T x)
    |_=>(zM T x,[]))=(match zM T a with
    |.el _ _ _ _=>qB g (zM T x)
    |_=>(zM T x,[])):=by rw[h1]
  have h3:∀(q:Patch) cs,storeAt (upd g' q) (zM T a) cs=storeAt (upd g q) (zM T a) cs:=fun q cs=>zRL fun i hi=>zIz (ha.left i hi)
  simp only[h1,h3] at h ⊢;exact h
 case convert s d x=>rw[zSr ha];exact h
 case slice t x lo hi mx =>
  unfold zBR at h ⊢;simp only[zVG ha];exact h
 case indexAddr t x i =>
  unfold xM at h ⊢;simp only[zOm ha];exact h
 case next x b =>
  cases b with
  |false=>exact h
  |true =>
   simp only at h ⊢;generalize zM T x=v at h ha;unfold zGL at h ⊢;cases v with
   |box id off =>
    cases off with
    |zero=>simp only at h ⊢;rw[ha.one];exact h
    |succ n=>exact h
   |_=>exact h
 case call c =>
  unfold qS at h ⊢;cases hc:c.callee with
  |value f =>
   rw[hc] at h ha;simp only at h ha ⊢;generalize zM T f=v at h ha;cases v with
   |t x =>
    cases x with
    |fn f=>exact zN7 h ha
    |_=>exact h
   |fn f first captured=>exact zN7 h ha
   |yld id=>exact zIc h ha.left ha.right
   |_=>exact h
  |builtin b =>
   rw[hc] at h ha
   by_cases hbp:b=.panic
   ·subst hbp;exact h
   have h':wB C.P g nid b c.argTypes.toList (opds T c.args.toList)=some r:=by
    cases b<;>first|exact h|exact absurd rfl hbp
   suffices hs:wB C.P g' nid b c.argTypes.toList (opds T c.args.toList)=some r by
    cases b<;>first|exact hs|exact absurd rfl hbp
   clear h;have h:=h';clear h';simp only at ha;unfold wB at h ⊢;split at h
   ·rename_i t rest hts;generalize opds T c.args.toList=l at h ha;unfold xLen at h ⊢
    match l,h,ha with
    |[x],h,ha =>
     have hx:Ag g g' (names depth x):=Ag.catMap (f:=names depth) (l:=[x]) ha (.head _);have e:=zVX hx;simp only at h ⊢;split
     ·rename_i hu;rw[hu] at h;exact h
     ·rename_i hu;rw[hu] at h;exact h
     ·rename_i hu;rw[hu] at h;rw[e];exact h
     rename_i h1 h2 h3;split at h
     ·rename_i hu;exact absurd hu (h1 _ _)
     ·rename_i hu;exact(h3 _ hu rfl).elim
     ·rename_i hu;exact(h2 _ hu).elim
     cases h
    |[],h,_=>exact h
    |_::_::_,h,_=>exact h
   ·rename_i s x hts heq;rw[heq] at ha;have hx1:Ag g g' (names depth s):=Ag.catMap (f:=names depth) (l:=[s,x]) ha (.head _);have hx2:Ag g g' (names depth x):=Ag.catMap (f:=names depth) (l:=[s,x]) ha (.tail _ (.head _));rw[zS8 hx1 hx2];exact h
   ·exact h
   ·exact h
   cases h
  |invoke r m=>rw[hc] at h;cases h
 case lookup t x i ok=>rw[zSf ha];exact h
 case insert t m k v=>rw[zLp ha];exact h
 case mapUpdate t m k v=>rw[zLp ha];exact h
 case makeMap t r=>cases r<;>exact h
def zUS{l:List Nat}{k:Nat}(h:l.length≤k):getN l k=0:=by
 unfold getN;rw[yP,List.getElem?_eq_none h];rfl
def zTo{l:List Nat}{k e:Nat}:getN (l.take k) e=if e<k then getN l e else 0:=by
 unfold getN;rw[yP,yP,List.getElem?_take];split<;>rfl
def zDV:∀(os:List Oper) (acc:List Nat),∃t,zBG acc os=acc++t∧t.length=os.length ∧
  ∀(k:Nat) o,os[k]?=some o→getN (zBG acc os) (acc.length+k)=zCv ((zBG acc os).take (acc.length+k)) o.after.toList
 |[],acc=>⟨[],by simp [zBG],rfl,fun k o h=>by simp at h⟩
 |o::os,acc=>by
  unfold zBG;simp only;obtain⟨t,h1,h2,h3⟩:=zDV os (acc++[zCv acc o.after.toList]);refine⟨zCv acc o.after.toList::t,by rw[h1];simp,by simp [h2],fun k o' hk=>?_⟩;cases k with
  |zero =>
   simp only[List.getElem?_cons_zero,Option.some.injEq] at hk;subst hk;rw[Nat.add_zero,h1,List.append_assoc,List.take_left];refine zQX ?_;simp
  |succ k =>
   have:=h3 k o' (by simpa using hk);rw[List.length_append,List.length_singleton] at this;have e:acc.length+1+k=acc.length+(k+1):=by omega
   rw[e] at this;exact this
def zQ9{os:List Oper}{k:Nat}{o:Oper}(h:os[k]?=some o):getN (masks os) k=zCv ((masks os).take k) o.after.toList:=by
 obtain⟨_,_,_,h3⟩:=zDV os [];have:=h3 k o h
 simpa [masks] using this
def zHu{M:List Nat}{i:Nat}:∀ {es:List Edge},(zCv M es).testBit i=true→∃e ∈ es,Region.binds .any e=true∧(i=e.on∨(getN M e.on).testBit i=true)
 |[],h=>by simp [zCv] at h
 |e::es,h=>by
  unfold zCv at h;split at h
  ·rename_i hb;have hor:∀a b:Nat,Nat.lor a b=a ||| b:=fun _ _=>rfl
   have hsh:Nat.shiftLeft 1 e.on=1 <<< e.on:=rfl;rw[hor,hor,hsh,Nat.testBit_or,Nat.testBit_or,Bool.or_eq_true,Bool.or_eq_true] at h;rcases h with (h|h)|h
   ·refine⟨e,.head _,hb,.inl ?_⟩;rw[Nat.one_shiftLeft] at h;have:=Nat.testBit_two_pow (n:=e.on) (m:=i);rw[this] at h;exact(of_decide_eq_true h).symm
   ·exact⟨e,.head _,hb,.inr h⟩
   obtain⟨e',h1,h2,h3⟩:=zHu h;exact⟨e',List.mem_cons_of_mem _ h1,h2,h3⟩
  obtain⟨e',h1,h2,h3⟩:=zHu h;exact⟨e',List.mem_cons_of_mem _ h1,h2,h3⟩
def zKK(ops:List Oper)(D:Nat→Bool):Prop:=∀j o,ops[j]?=some o→D j=true→∀e ∈ o.after.toList,Region.binds .any e=true→D e.on=true
def zJp{ops:List Oper}{D:Nat→Bool}(hc:zKK ops D):∀(j:Nat) (o:Oper),ops[j]?=some o→(∀e ∈ o.after.toList,Region.binds .any e=true→D e.on=true) →
  ∀i,(getN (masks ops) j).testBit i=true→D i=true:=by
 intro j
 induction j using Nat.strongRecOn with
 |_ j ih =>
  intro o ho hd i hi;rw[zQ9 ho] at hi;obtain⟨e,he,hb,h⟩:=zHu hi;have hde:=hd e he hb;rcases h with h|h
  ·rw[h];exact hde
  rw[zTo] at h;split at h
  ·rename_i hlt;cases hoe:ops[e.on]? with
   |none =>
    obtain⟨t,h1,h2,_⟩:=zDV ops [];have hlen:(masks ops).length=ops.length:=by unfold masks;rw[h1];simpa using h2
    rw[zUS (by rw[hlen];exact List.getElem?_eq_none_iff.1 hoe)] at h;simp at h
   |some oe=>exact ih e.on hlt oe hoe (hc e.on oe hoe hde) i h
  simp at h
def zHJ:∀ {os:List Oper} {i:Nat},zJf i os=true→∀(k:Nat) o,os[k]?=some o→∀e ∈ o.after.toList,Region.binds .any e=true→e.on<i+k
 |[],i,_,k,o,h=>by simp at h
 |o::os,i,h,k,o',hk=>by
  unfold zJf at h;rw[Bool.and_eq_true,List.all_eq_true] at h;cases k with
  |zero =>
   simp only[List.getElem?_cons_zero,Option.some.injEq] at hk;subst hk;intro e he hb;have:=h.1 e he;rw[hb] at this;simp only[Bool.not_true,Bool.false_or,Nat.blt_eq] at this;omega
  |succ k =>
   intro e he hb;have:=zHJ h.2 k o' (by simpa using hk) e he hb;omega
def zHz{ops:List Oper}{ms:List Nat}{i:Nat}{a:Oper}:∀ {os:List Oper} {j:Nat},zCl.go ops ms i a j os=true→∀(k:Nat) b,os[k]?=some b →
  (getN ms (j+k)).testBit i=true∨(zCC ops a b=true∧zCC ops b a=true)
 |[],j,_,k,b,h=>by simp at h
 |o::os,j,h,k,b,hk=>by
  unfold zCl.go at h;rw[Bool.and_eq_true,Bool.or_eq_true,Bool.and_eq_true] at h;cases k with
  |zero =>
   simp only[List.getElem?_cons_zero,Option.some.injEq] at hk;subst hk;exact h.1
  |succ k =>
   have:=zHz h.2 k b (by simpa using hk);have e:j+1+k=j+(k+1):=by omega
   rw[e] at this;exact this
def zF1{ops:List Oper}{ms:List Nat}:∀ {os:List Oper} {i:Nat},zCl ops ms i os=true→∀(k k':Nat) a b,k<k'→os[k]?=some a→os[k']?=some b →
  (getN ms (i+k')).testBit (i+k)=true∨(zCC ops a b=true∧zCC ops b a=true)
 |[],i,_,k,k',a,b,_,h,_=>by simp at h
 |o::os,i,h,k,k',a,b,hlt,hk,hk'=>by
  unfold zCl at h;rw[Bool.and_eq_true] at h;cases k' with
  |zero=>omega
  |succ k' =>
   have e:i+1+k'=i+(k'+1):=by omega
   cases k with
   |zero =>
    simp only[List.getElem?_cons_zero,Option.some.injEq] at hk;subst hk;have:=zHz h.1 k' b (by simpa using hk');rw[e] at this;exact this
   |succ k =>
    have:=zF1 h.2 k k' a b (by omega) (by simpa using hk) (by simpa using hk');have e':i+1+k=i+(k+1):=by omega
    rw[e,e'] at this;exact this
def zGk {ops:List Oper} (h:zCD ops=true) {k k':Nat} {a b:Oper} (hlt:k<k') (hk:ops[k]?=some a) (hk':ops[k']?=some b) :
  (getN (masks ops) k').testBit k=true∨(zCC ops a b=true∧zCC ops b a=true):=by
 unfold zCD at h;rw[Bool.and_eq_true] at h;have:=zF1 h.2 k k' a b hlt hk hk'
 rwa [Nat.zero_add,Nat.zero_add] at this
def zEi:∀(l:List Rec) (i:Nat) (a:Rec) (j:Nat),(a,j) ∈ uB i l↔∃k,l[k]?=some a∧j=i+k
 |[],i,a,j=>by simp [uB]
 |x::l,i,a,j=>by
  simp only[uB,List.mem_cons,Prod.mk.injEq,zEi l (i+1)]
  constructor
  ·rintro(⟨rfl,rfl⟩|⟨k,h1,h2⟩)
   ·exact⟨0,rfl,rfl⟩
   exact⟨k+1,by simpa using h1,by omega⟩
  rintro⟨k,h1,h2⟩;cases k with
  |zero=>simp at h1;exact .inl ⟨h1.symm,h2⟩
  |succ k=>exact .inr ⟨k,by simpa using h1,by omega⟩
def zHB:∀(l:List Rec) (i:Nat),zBf (uB i l)=(uB i l).filter fun x=>busy x.1
 |[],i=>rfl
 |x::l,i=>by
  simp only[uB,zBf,List.filter_cons];rw[zHB l (i+1)];cases hb:busy x<;>simp
def zNu{ms:List Nat}:∀ {l:List (Rec×Nat)},calm ms l=true→l.Pairwise fun x y=>(getN ms y.2).testBit x.2=true∨clash x.1 y.1=false
 |[],_=>.nil
 |(a,i)::l,h=>by
  unfold calm at h;rw[Bool.and_eq_true,List.all_eq_true] at h;refine .cons (fun y hy=>?_) (zNu h.2);obtain⟨b,j⟩:=y;have:=h.1 (b,j) hy
  simpa using this
def zF4:∀(l:List Rec) (i:Nat),(uB i l).Pairwise fun x y=>x.2<y.2
 |[],i=>.nil
 |x::l,i=>by
  refine .cons (fun y hy=>?_) (zF4 l (i+1));obtain⟨b,j⟩:=y;obtain⟨k,_,h2⟩:=(zEi l (i+1) b j).1 hy;simp only;omega
def zHN{α:Type}{R:α→α→Prop}{S:α→α→Prop}(hs:∀a,¬ S a a)(hst:∀a b,S a b→¬ S b a):∀ {l:List α},l.Pairwise R→l.Pairwise S→∀ {x y:α},x ∈ l→y ∈ l→S x y→R x y
 |[],_,_,_,_,h,_,_=>by cases h
 |a::l,hR,hS,x,y,hx,hy,h=>by
  obtain⟨r1,r2⟩:=List.pairwise_cons.1 hR;obtain⟨s1,s2⟩:=List.pairwise_cons.1 hS;rcases List.mem_cons.1 hx with ex|hx'
  ·rcases List.mem_cons.1 hy with ey|hy'
   ·subst ex;subst ey;exact absurd h (hs _)
   subst ex;exact r1 y hy'
  rcases List.mem_cons.1 hy with ey|hy'
  ·subst ey;exact absurd (s1 x hx') (hst _ _ h)
  exact zHN hs hst r2 s2 hx' hy' h
structure Free (a b:Rec):Prop where
 mr:∀id ∈ a.mods,id ∉ b.reads
 rm:∀id ∈ a.reads,id ∉ b.mods
 mm:∀id ∈ a.mods,id ∉ b.mods
theorem Free.symm{a b:Rec}(h:Free a b):Free b a:=⟨fun id h1 h2=>h.rm id h2 h1,fun id h1 h2=>h.mr id h2 h1,fun id h1 h2=>h.mm id h2 h1⟩
def zGp{a b:List Nat}(h:zLW a b=true):∀id ∈ a,id ∉ b:=fun id hid hb=>by
 have:=List.all_eq_true.1 h id hid;rw[zD8.2 hb] at this;cases this
def zRz{a b:Rec}(h:clash a b=false):Free a b:=by
 unfold clash at h;simp only[Bool.not_eq_false',Bool.and_eq_true] at h;exact⟨zGp h.1.1,zGp h.1.2,zGp h.2⟩
def zMz{a b:Rec}(h:busy a=false):Free a b:=by
 unfold busy at h;simp only[Bool.not_eq_false',Bool.and_eq_true,List.isEmpty_iff] at h;have hm:a.mods=[]:=by unfold Rec.mods;rw[h.2];rfl
 exact⟨fun id hid=>(by rw[hm] at hid;cases hid),fun id hid=>(by rw[h.1] at hid;cases hid),fun id hid=>(by rw[hm] at hid;cases hid)⟩
def zFK {ms:List Nat} {l:List Rec} (h:calm ms (zBf (uB 0 l))=true) {i j:Nat} {a b:Rec} (hlt:i<j) (ha:l[i]?=some a) (hb:l[j]?=some b) :
  (getN ms j).testBit i=true∨Free a b:=by
 cases hba:busy a with
 |false=>exact .inr (zMz hba)
 |true =>
  cases hbb:busy b with
  |false=>exact .inr (zMz hbb).symm
  |true =>
   have hp:=zNu h;rw[zHB] at hp;have hs:=(zF4 l 0).filter (fun x=>busy x.1);have h1:(a,i) ∈ (uB 0 l).filter fun x=>busy x.1:=List.mem_filter.2 ⟨(zEi l 0 a i).2 ⟨i,ha,by omega⟩,hba⟩
   have h2:(b,j) ∈ (uB 0 l).filter fun x=>busy x.1:=List.mem_filter.2 ⟨(zEi l 0 b j).2 ⟨j,hb,by omega⟩,hbb⟩
   rcases zHN (S:=fun x y:Rec×Nat=>x.2<y.2) (fun a=>Nat.lt_irrefl _) (fun a b h=>Nat.lt_asymm h) hp hs h1 h2 hlt with h3|h3
   ·exact .inl h3
   exact .inr (zRz h3)
def envD(D:Nat→Bool):Nat→List Oper→List Rec→Env→Env
 |i,o::os,r::rs,T=>envD D (i+1) os rs (if D i=true then putT T o.dst r.v else T)
 |_,_,_,T=>T
def memD(D:Nat→Bool):Nat→List Rec→Look→Look
 |i,r::rs,g=>memD D (i+1) rs (if D i=true then upd g r.p else g)
 |_,[],g=>g
def shift(n k:Nat):n+1+k=n+(k+1):=by omega
def zCX{T:Env}{d:Option Tmp}{v:AV}{t:Nat}:get (putT T d v) t=if d=some t then v else get T t:=by
 cases d with
 |none=>simp [putT]
 |some d =>
  simp only[putT,get,Option.some.injEq];cases hb:Nat.beq d t with
  |true=>have:=Nat.eq_of_beq_eq_true hb;simp [this]
  |false=>have:=Nat.ne_of_beq_eq_false hb;simp [this]
def zHj{D D':Nat→Bool}{t:Nat}:∀(os:List Oper) (rs:List Rec) (i:Nat) (T T':Env),get T' t=get T t →
  (∀(k:Nat) o,os[k]?=some o→k<rs.length→o.dst=some t→D' (i+k)=D (i+k))→get (envD D' i os rs T') t=get (envD D i os rs T) t
 |[],rs,i,T,T',h,_=>by unfold envD;exact h
 |o::os,[],i,T,T',h,_=>by unfold envD;exact h
 |o::os,r::rs,i,T,T',h,hd=>by
  unfold envD;refine zHj os rs (i+1) _ _ ?_ fun k o' hk hl ho=>?_
  ·by_cases hdst:o.dst=some t
   ·have:=hd 0 o rfl (by simp) hdst;rw[Nat.add_zero] at this;rw[this]
    by_cases hD:D i=true
    ·rw[if_pos hD,if_pos hD,zCX,zCX,if_pos hdst,if_pos hdst]
    rw[if_neg hD,if_neg hD];exact h
   have e1:∀(c:Bool) (T:Env),get (if c=true then putT T o.dst r.v else T) t=get T t:=fun c T=>by
    cases c
    ·rfl
    simp only[if_true];rw[zCX,if_neg hdst]
   rw[e1,e1];exact h
  have:=hd (k+1) o' (by simpa using hk) (by simpa using hl) ho;have e:i+1+k=i+(k+1):=by omega
  rw[e];exact this
def zOX{D D':Nat→Bool}{j t:Nat}{oj:Oper}{rj:Rec}:∀(os:List Oper) (rs:List Rec) (i:Nat) (T:Env),i≤j→os[j - i]?=some oj→rs[j - i]?=some rj →
  D j=false→(∀x,D' x=(D x||decide (x=j)))→(∀(k:Nat) o,os[k]?=some o→j<i+k→D (i+k)=true→oj.dst=some t→o.dst≠some t) →
  get (envD D' i os rs T) t=if oj.dst=some t then rj.v else get (envD D i os rs T) t
 |[],rs,i,T,_,h,_,_,_,_=>by simp at h
 |o::os,[],i,T,_,_,h,_,_,_=>by simp at h
 |o::os,r::rs,i,T,hij,h1,h2,hD,hD',hno=>by
  unfold envD
  by_cases hi:i=j
  ·subst hi;simp only[Nat.sub_self,List.getElem?_cons_zero,Option.some.injEq] at h1 h2;subst h1;subst h2;have hDi:D' i=true:=by rw[hD'];simp
   have hDj:¬ (D i=true):=by rw[hD];simp
   rw[if_pos hDi,if_neg hDj]
   by_cases hdst:o.dst=some t
   ·rw[if_pos hdst]
    -- nothing behind writes to it
    have key:∀(os:List Oper) (rs:List Rec) (n:Nat) (T:Env),(∀(k:Nat) o',os[k]?=some o'→D' (n+k)=true→o'.dst≠some t)→get (envD D' n os rs T) t=get T t:=by
     intro os
     induction os with
     |nil=>intro rs n T _;unfold envD;rfl
     |cons x os ih =>
      intro rs n T hh;cases rs with
      |nil=>unfold envD;rfl
      |cons y rs =>
       unfold envD;rw[ih rs (n+1) _ fun k o' hk hd=>hh (k+1) o' (by simpa using hk) (by rw[← shift];exact hd)]
       by_cases hDn:D' n=true
       ·rw[if_pos hDn,zCX,if_neg (hh 0 x rfl hDn)]
       rw[if_neg hDn]
    rw[key os rs (i+1) _ fun k o' hk hd=>by
     refine hno (k+1) o' (by simpa using hk) (by omega) ?_ hdst;rw[hD'] at hd;have e:i+1+k=i+(k+1):=by omega
     rw[e] at hd;have:decide (i+(k+1)=i)=false:=by simp
     rw[this,Bool.or_false] at hd;exact hd]
    rw[zCX,if_pos hdst]
   rw[if_neg hdst];refine zHj os rs (i+1) _ _ (by rw[zCX,if_neg hdst]) fun k o' _ _ _=>?_
   rw[hD'];have:decide (i+1+k=i)=false:=by simp;omega
   rw[this,Bool.or_false]
  have hne:decide (i=j)=false:=by simp [hi]
  have hDi:D' i=D i:=by rw[hD',hne,Bool.or_false]
  rw[hDi];have e:j - i=(j - (i+1))+1:=by omega
  rw[e] at h1 h2;exact zOX os rs (i+1) _ (by omega) (by simpa using h1) (by simpa using h2) hD hD' fun k o' hk hlt hd hdst=>hno (k+1) o' (by simpa using hk) (by omega) (by rw[← shift];exact hd) hdst
def zMA{g g':Look}{p:Patch}{id:Nat}(h:g' id=g id):upd g' p id=upd g p id:=zIz h
def zDh{g:Look}{p:Patch}{id:Nat}(h:id ∉ p.map (·.1)):upd g p id=g id :=
 zD9 fun o ho=>h (List.mem_map.2 ⟨(id,o),ho,rfl⟩)
def zZg{p:Patch}{id:Nat}(h:id ∈ p.map (·.1)):∀(g g':Look),upd g' p id=upd g p id:=by
 induction p with
 |nil=>cases h
 |cons x p ih =>
  obtain⟨i,o⟩:=x;intro g g';unfold upd
  by_cases hm:id ∈ p.map (·.1)
  ·exact ih hm _ _
  rw[zDh hm,zDh hm];simp only[List.map_cons,List.mem_cons] at h;have:id=i:=h.resolve_right hm;subst this;rw[Nat.beq_refl]
def zE0{D D':Nat→Bool}{id:Nat}:∀(rs:List Rec) (i:Nat) (g g':Look),g' id=g id→(∀(k:Nat) r,rs[k]?=some r→id ∈ r.mods→D' (i+k)=D (i+k)) →
  memD D' i rs g' id=memD D i rs g id
 |[],i,g,g',h,_=>by unfold memD;exact h
 |r::rs,i,g,g',h,hd=>by
  unfold memD;refine zE0 rs (i+1) _ _ ?_ fun k r' hk hm=>?_
  ·by_cases hm:id ∈ r.mods
   ·have:=hd 0 r rfl hm;rw[Nat.add_zero] at this;rw[this]
    by_cases hD:D i=true
    ·rw[if_pos hD,if_pos hD];exact zMA h
    rw[if_neg hD,if_neg hD];exact h
   have e1:∀(c:Bool) (g:Look),(if c=true then upd g r.p else g) id=g id:=fun c g=>by
    cases c
    ·rfl
    simp only[if_true];exact zDh hm
   rw[e1,e1];exact h
  have:=hd (k+1) r' (by simpa using hk) hm;have e:i+1+k=i+(k+1):=by omega
  rw[e];exact this
def zOV{D D':Nat→Bool}{j id:Nat}{rj:Rec}:∀(rs:List Rec) (i:Nat) (g:Look),i≤j→rs[j - i]?=some rj →
  D j=false→(∀x,D' x=(D x||decide (x=j)))→(∀(k:Nat) r,rs[k]?=some r→j<i+k→D (i+k)=true→id ∈ rj.mods→id ∉ r.mods) →
  memD D' i rs g id=upd (memD D i rs g) rj.p id
 |[],i,g,_,h,_,_,_=>by simp at h
 |r::rs,i,g,hij,h2,hD,hD',hno=>by
  unfold memD
  by_cases hi:i=j
  ·subst hi;simp only[Nat.sub_self,List.getElem?_cons_zero,Option.some.injEq] at h2;subst h2;have hDi:D' i=true:=by rw[hD'];simp
   have hDj:¬ (D i=true):=by rw[hD];simp
   rw[if_pos hDi,if_neg hDj];have hrest:∀k,D' (i+1+k)=D (i+1+k):=fun k=>by
    rw[hD'];have:decide (i+1+k=i)=false:=by simp;omega
    rw[this,Bool.or_false]
   by_cases hm:id ∈ r.mods
   ·have key:∀(rs:List Rec) (n:Nat) (g:Look),(∀(k:Nat) r',rs[k]?=some r'→D' (n+k)=true→id ∉ r'.mods)→memD D' n rs g id=g id:=by
     intro rs
     induction rs with
     |nil=>intro n g _;unfold memD;rfl
     |cons y rs ih =>
      intro n g hh;unfold memD;rw[ih (n+1) _ fun k r' hk hd=>hh (k+1) r' (by simpa using hk) (by rw[← shift];exact hd)]
      by_cases hDn:D' n=true
      ·rw[if_pos hDn,zDh (hh 0 y rfl hDn)]
      rw[if_neg hDn]
    rw[key rs (i+1) _ fun k r' hk hd=>by
     refine hno (k+1) r' (by simpa using hk) (by omega) ?_ hm;rw[hrest] at hd;have e:i+1+k=i+(k+1):=by omega
     rw[← e];exact hd]
    exact zZg hm _ _
   rw[zDh hm];exact zE0 rs (i+1) _ _ (zDh hm) fun k r' _ _=>hrest k
  have hne:decide (i=j)=false:=by simp [hi]
  have hDi:D' i=D i:=by rw[hD',hne,Bool.or_false]
  rw[hDi];have e:j - i=(j - (i+1))+1:=by omega
  rw[e] at h2;exact zOV rs (i+1) _ (by omega) (by simpa using h2) hD hD' fun k r' hk hlt hd hm=>hno (k+1) r' (by simpa using hk) (by omega) (by rw[← shift];exact hd) hm
def Stp(C:Cfg)(ρ:Oracle)(ops:List Oper)(o:Oper)(r:Rec)(T:Env)(g:Look)(n:Nat):Prop :=
 (wanted ops T o=some false∧r=⟨[],.nov,[]⟩)∨(wanted ops T o=some true∧exec1 C ρ g n T o=some (.val r.v,r.p)∧r.reads=foot C g T o)
inductive Tr (C:Cfg) (ρ:Oracle) (ops:List Oper):List Oper→List Rec→Env→Heap→Env→Heap→Prop
 |nil (T:Env) (h:Heap):Tr C ρ ops [] [] T h T h
 |cons {o:Oper} {os:List Oper} {r:Rec} {rs:List Rec} {T:Env} {h:Heap} {T':Env} {h':Heap} (hs:Stp C ρ ops o r T (nth h) h.length) (hg:uA h.length r.p=true)
   (hr:Tr C ρ ops os rs (putT T o.dst r.v) (patch h r.p) T' h'):Tr C ρ ops (o::os) (r::rs) T h T' h'
def zH6{C:Cfg}{ρ:Oracle}{ops:List Oper}:∀ {os:List Oper} {T:Env} {h:Heap} {l:List Rec} {T':Env} {h':Heap},xF C ρ ops os T h=some (l,T',h')→Tr C ρ ops os l T h T' h'
 |[],T,h,l,T',h',hx=>by
  simp only[xF,Option.some.injEq,Prod.mk.injEq] at hx;obtain⟨rfl,rfl,rfl⟩:=hx;exact .nil T h
 |o::os,T,h,l,T',h',hx=>by
  unfold xF at hx;split at hx
  ·cases hx
  ·rename_i hw;split at hx
   ·cases hx
   rename_i l1 T1 h1 hr;cases hx;exact .cons (.inl ⟨hw,rfl⟩) rfl (zH6 hr)
  rename_i hw;split at hx
  ·cases hx
  ·cases hx
  rename_i v p he;split at hx
  ·cases hx
  rename_i hg;split at hx
  ·cases hx
  rename_i l1 T1 h1 hr;cases hx;exact .cons (.inr ⟨hw,he,rfl⟩) hg (zH6 hr)
def zJF:∀(h:Heap) (n:Nat) (o:Obj),n≤h.length→(put1 h n o).length=if n=h.length then h.length+1 else h.length
 |[],0,o,_=>rfl
 |[],n+1,o,h=>by simp at h
 |a::h,0,o,_=>by simp [put1]
 |a::h,n+1,o,hle=>by
  simp only[List.length_cons,Nat.add_le_add_iff_right] at hle;simp only[put1,List.length_cons,zJF h n o hle]
  by_cases he:n=h.length<;>simp [he]
def zFH:∀ {p:Patch} {h:Heap},uA h.length p=true→(∀i,nth (patch h p) i=upd (nth h) p i)∧h.length≤(patch h p).length∧∀id o,(id,o) ∈ p→id<(patch h p).length
 |[],h,_=>⟨fun _=>rfl,Nat.le_refl _,fun _ _ hm=>by cases hm⟩
 |(id,o)::p,h,hg=>by
  have hle:id≤h.length:=by
   unfold uA at hg;split at hg
   ·rename_i hb;rw[Nat.blt_eq] at hb;omega
   split at hg
   ·rename_i hb;have:=Nat.eq_of_beq_eq_true hb;omega
   cases hg
  have hlen:=zJF h id o hle;have hg':uA (put1 h id o).length p=true:=by
   unfold uA at hg;split at hg
   ·rename_i hb;rw[Nat.blt_eq] at hb;rw[hlen,if_neg (by omega)];exact hg
   split at hg
   ·rename_i hb;have:=Nat.eq_of_beq_eq_true hb;rw[hlen,if_pos this];exact hg
   cases hg
  obtain⟨h1,h2,h3⟩:=zFH hg';have hll:h.length≤(put1 h id o).length:=by rw[hlen];split<;>omega
  refine⟨fun i=>?_,Nat.le_trans hll h2,fun i x hm=>?_⟩
  ·unfold patch upd;rw[h1];refine zMA ?_;rw[zFq];cases hb:Nat.beq i id with
   |true=>have:=Nat.eq_of_beq_eq_true hb;rw[if_pos this]
   |false =>
    have:=Nat.ne_of_beq_eq_false hb;rw[if_neg this];simp only;cases hn:nth h i with
    |some x=>rfl
    |none =>
     simp only;rw[yP,List.getElem?_eq_none_iff] at hn;rw[if_neg (by omega)]
  rcases List.mem_cons.1 hm with hm|hm
  ·cases hm;have:id<(put1 h id o).length:=by rw[hlen];split<;>omega
   exact Nat.lt_of_lt_of_le this h2
  exact h3 i x hm
theorem Tr.length{C:Cfg}{ρ:Oracle}{ops os:List Oper}{rs:List Rec}{T T':Env}{h h':Heap}(t:Tr C ρ ops os rs T h T' h'):rs.length=os.length:=by
 induction t with
 |nil=>rfl
 |cons _ _ _ ih=>simp [ih]
def zHX{D:Nat→Bool}:∀(os:List Oper) (rs:List Rec) (i:Nat) (T:Env),(∀x,i≤x→D x=false)→envD D i os rs T=T
 |[],rs,i,T,_=>by unfold envD;rfl
 |o::os,[],i,T,_=>by unfold envD;rfl
 |o::os,r::rs,i,T,h=>by
  unfold envD;rw[if_neg (by rw[h i (Nat.le_refl _)];simp)];exact zHX os rs (i+1) T fun x hx=>h x (by omega)
def zFO{D:Nat→Bool}:∀(rs:List Rec) (i:Nat) (g:Look),(∀x,i≤x→D x=false)→memD D i rs g=g
 |[],i,g,_=>rfl
 |r::rs,i,g,h=>by
  unfold memD;rw[if_neg (by rw[h i (Nat.le_refl _)];simp)];exact zFO rs (i+1) g fun x hx=>h x (by omega)
def zXx{C:Cfg}{ρ:Oracle}{ops:List Oper}:∀(j i:Nat) {os:List Oper} {rs:List Rec} {T T':Env} {h h':Heap} {o:Oper} {r:Rec},Tr C ρ ops os rs T h T' h'→os[j]?=some o→rs[j]?=some r →
  ∃n,h.length≤n∧Stp C ρ ops o r (envD (fun x=>decide (x<i+j)) i os rs T) (memD (fun x=>decide (x<i+j)) i rs (nth h)) n ∧
   ∀j',j'<j→∀r',rs[j']?=some r'→∀id ∈ r'.mods,id<n
 |0,i,_,_,T,T',h,h',o,r,.cons hs hg hr,ho,hr'=>by
  simp only[List.getElem?_cons_zero,Option.some.injEq] at ho hr';subst ho;subst hr';refine⟨h.length,Nat.le_refl _,?_,fun j' hj=>by omega⟩;rw[zHX _ _ _ _ (fun x hx=>by simp;omega),zFO _ _ _ (fun x hx=>by simp;omega)];exact hs
 |j+1,i,_,_,T,T',h,h',o,r,.cons (o:=o0) (os:=os) (r:=r0) (rs:=rs) hs hg hr,ho,hr'=>by
  obtain⟨n,h1,h2,h3⟩:=zXx j (i+1) hr (by simpa using ho) (by simpa using hr');obtain⟨g1,g2,g3⟩:=zFH hg;refine⟨n,Nat.le_trans g2 h1,?_,fun j' hj r' hj' id hid=>?_⟩
  ·have e:i+1+j=i+(j+1):=by omega
   rw[e] at h2;unfold envD memD;rw[if_pos (by simp),if_pos (by simp)];have hl:nth (patch h r0.p)=upd (nth h) r0.p:=funext g1;rw[← hl];exact h2
  cases j' with
  |zero =>
   simp only[List.getElem?_cons_zero,Option.some.injEq] at hj';subst hj';obtain⟨⟨i',x⟩,hx,rfl⟩:=List.mem_map.1 hid;exact Nat.lt_of_lt_of_le (g3 i' x hx) h1
  |succ j'=>exact h3 j' (by omega) r' (by simpa using hj') id hid
def zTD{C:Cfg}{ρ:Oracle}{ops:List Oper}{D:Nat→Bool}:∀ {os:List Oper} {rs:List Rec} {T T':Env} {h h':Heap} (i:Nat),Tr C ρ ops os rs T h T' h'→(∀x,i≤x→x<i+os.length→D x=true) →
  envD D i os rs T=T'∧memD D i rs (nth h)=nth h'
 |_,_,T,_,h,_,i,.nil _ _,_=>⟨by unfold envD;rfl,by unfold memD;rfl⟩
 |_,_,T,T',h,h',i,.cons (r:=r) hs hg hr,hD=>by
  unfold envD memD;rw[if_pos (hD i (Nat.le_refl _) (by simp)),if_pos (hD i (Nat.le_refl _) (by simp))];obtain⟨g1,_,_⟩:=zFH hg;have hl:nth (patch h r.p)=upd (nth h) r.p:=funext g1;rw[← hl];exact zTD (i+1) hr fun x h1 h2=>hD x (by omega) (by simp;omega)
def zCq:List Bool→Nat
 |[]=>0
 |b::l=>(if b=true then 0 else 1)+zCq l
def zKF:∀ {l:List Bool} {j:Nat},l[j]?=some false→zCq (l.set j true)+1=zCq l
 |[],j,h=>by simp at h
 |b::l,0,h=>by simp at h;subst h;simp [zCq];omega
 |b::l,j+1,h=>by
  have:=zKF (l:=l) (j:=j) (by simpa using h);simp only[List.set_cons_succ,zCq];omega
def zJo:∀ {l:List Bool},zCq l=0→∀(j:Nat),j<l.length→l[j]?=some true
 |[],_,j,h=>by simp at h
 |b::l,h,j,hj=>by
  unfold zCq at h;cases b with
  |false=>simp at h
  |true =>
   cases j with
   |zero=>rfl
   |succ j=>simpa using zJo (l:=l) (by simpa using h) j (by simpa using hj)
def zFA:∀(n:Nat),zCq (List.replicate n false)=n
 |0=>rfl
 |n+1=>by simp [List.replicate_succ,zCq,zFA n];omega
def zLq{t:Nat}:∀ {l:List Operand},.tmp t ∈ l→t ∈ zKv l
 |[],h=>by cases h
 |x::l,h=>by
  rcases List.mem_cons.1 h with h|h
  ·subst h;exact .head _
  have:=zLq h;cases x<;>first|exact List.mem_cons_of_mem _ this|exact this
def zTu{T T':Env}{x:Operand}(h:∀t,x=.tmp t→get T' t=get T t):zM T' x=zM T x:=by
 cases x with
 |tmp t=>exact h t rfl
 |_=>rfl
def zVE{ops:List Oper}{T T':Env}{o:Oper}(h:∀t ∈ zOQ ops o,get T' t=get T t):wanted ops T' o=wanted ops T o:=by
 unfold wanted;unfold zOQ at h;cases hg:o.guard with
 |none=>rfl
 |some jw =>
  obtain⟨j,want⟩:=jw;rw[hg] at h;simp only at h ⊢;cases hj:nth ops j with
  |none=>rfl
  |some oj =>
   rw[hj] at h;simp only at h ⊢;cases hd:oj.dst with
   |none=>rfl
   |some d =>
    rw[hd] at h;simp only at h ⊢;rw[h d (.head _)]
def zGq{ops:List Oper}{x y:Oper}{d:Nat}(h:zCC ops x y=true)(hd:x.dst=some d):d ∉ looks ops y∧y.dst≠some d:=by
 unfold zCC at h;rw[hd] at h;simp only[Bool.and_eq_true,Bool.not_eq_true'] at h;refine⟨fun hm=>by rw[zD8.2 hm] at h;exact absurd h.1 (by simp),fun hy=>?_⟩;have h2:=h.2;rw[hy] at h2;simp only[Bool.not_eq_true'] at h2;exact Nat.ne_of_beq_eq_false h2 rfl
def uG(listed:Array Bool):Nat→Bool:=fun i=>listed.getD i false
structure DInv (w0:World) (d0:List Deferred) (k:Nat) (A:Array Oper) (l:List Rec) (T0:Env) (g0:Look) (γ0:G) (wi:World) (listed:Array Bool) (γ:G) (a:Act) (w:World):Prop where
 sz:listed.size=A.size
 hr:HR γ (memD (uG listed) 0 l g0) w
 base:Base w0 γ w
 er:ER γ (memD (uG listed) 0 l g0) (envD (uG listed) 0 A.toList l T0) a
 tsz:k≤a.tmps.size
 nd:a.defers=d0
 fr:Fr γ0 wi γ w
 ext:Ext γ0 g0 γ (memD (uG listed) 0 l g0)
 closed:zKK A.toList (uG listed)
section
variable {C:Cfg} {w0:World} {rr:Option Nat} {e:Nat} {d0:List Deferred} {ρ:Oracle} {A:Array Oper} {l:List Rec} {k:Nat} {T T':Env} {h h':Heap} {Q:Exit→Act→World→Prop} {γ0:G} {wi:World}
theorem zOA (hρ:xW C.P w0 ρ) (hpr:uV C w0) (tr:Tr C ρ A.toList A.toList l T h T' h') (hst:zCD A.toList=true) (hcalm:calm (masks A.toList) (zBf (uB 0 l))=true)
  (hdst:qF k A.toList=true) {listed:Array Bool} {γ:G} {a:Act} {w:World} (hi:DInv w0 d0 k A l T (nth h) γ0 wi listed γ a w) {j:Nat} (hj:j ∈ Region.ready .any A listed)
  {K:Act→World→Prop} (hK:∀ γ' a' w',DInv w0 d0 k A l T (nth h) γ0 wi (listed.setIfInBounds j true) γ' a' w'→K a' w'):wpOpIn (Wd rr) 0 C.P A Q j K a w:=by
 obtain⟨hnl,o,ho,hedges⟩:=mem_ready.1 hj;have hjs:j<A.size:=(Array.getElem?_eq_some_iff.1 ho).1;have hoL:A.toList[j]?=some o:=by simpa using ho
 have hjl:j<listed.size:=by rw[hi.sz];exact hjs
 have hlen:=tr.length;have hjr:j<l.length:=by rw[hlen];simpa using hjs
 obtain⟨r,hr⟩:∃r,l[j]?=some r:=⟨l[j],List.getElem?_eq_getElem hjr⟩;generalize hD:uG listed=D at *;have hDj:D j=false:=by
  rw[← hD];unfold uG;simp only[Array.getD_eq_getD_getElem?,Array.getElem?_eq_getElem hjl,Option.getD_some] at hnl ⊢;exact hnl
 have hedges':∀e ∈ o.after.toList,Region.binds .any e=true→D e.on=true:=fun e he hb=>by
  rw[← hD];exact hedges e (by simpa using he) hb
 have hclosed:zKK A.toList D:=by rw[← hD];exact hi.closed
 have hD':∀x,uG (listed.setIfInBounds j true) x=(D x||decide (x=j)):=fun x=>by
  rw[← hD];unfold uG
  by_cases hx:x=j
  ·subst hx;simp [Array.getD_eq_getD_getElem?,hjl]
  have:j≠x:=fun e=>hx e.symm
  simp [Array.getD_eq_getD_getElem?,Array.getElem?_setIfInBounds_ne this,hx]
 -- what the order says of another one
 have early:∀x,(getN (masks A.toList) j).testBit x=true→D x=true:=fun x hx=>zJp hclosed j o hoL hedges' x hx
 have late:∀x ox,A.toList[x]?=some ox→(getN (masks A.toList) x).testBit j=true→D x=false:=fun x ox hox hx=>by
  cases hDx:D x with
  |false=>rfl
  |true =>
   have:=zJp hclosed x ox hox (hclosed x ox hox hDx) j hx;rw[hDj] at this;cases this
 have recOf:∀x ox,A.toList[x]?=some ox→∃rx,l[x]?=some rx:=fun x ox hox=>by
  have:x<l.length:=by rw[hlen];exact zR hox
  exact⟨l[x],List.getElem?_eq_getElem this⟩
 have operOf:∀x rx,l[x]?=some rx→∃ox,A.toList[x]?=some ox:=fun x rx hrx=>by
  have:x<A.toList.length:=by rw[← hlen];exact zR hrx
  exact⟨A.toList[x],List.getElem?_eq_getElem this⟩
 -- temporaries that the operation looks at
 have agreeT:∀t ∈ looks A.toList o,get (envD D 0 A.toList l T) t=get (envD (fun x=>decide (x<0+j)) 0 A.toList l T) t:=fun t ht=>by
  refine zHj A.toList l 0 T T rfl fun x ox hox _ hdx=>?_
  simp only[Nat.zero_add];rcases Nat.lt_trichotomy x j with hlt|heq|hgt
  ·rcases zGk hst hlt hox hoL with hb|⟨hap,_⟩
   ·rw[early x hb];simp [hlt]
   exact absurd ht (zGq hap hdx).1
  ·subst heq;rw[hDj];simp
  rcases zGk hst hgt hoL hox with hb|⟨_,hap⟩
  ·rw[late x ox hox hb];simp;omega
  exact absurd ht (zGq hap hdx).1
 have agreeM:∀id ∈ r.reads,memD D 0 l (nth h) id=memD (fun x=>decide (x<0+j)) 0 l (nth h) id:=fun id hid=>by
  refine zE0 l 0 _ _ rfl fun x rx hrx hm=>?_
  simp only[Nat.zero_add];obtain⟨ox,hox⟩:=operOf x rx hrx;rcases Nat.lt_trichotomy x j with hlt|heq|hgt
  ·rcases zFK hcalm hlt hrx hr with hb|hf
   ·rw[early x hb];simp [hlt]
   exact absurd hid (hf.mr id hm)
  ·subst heq;rw[hDj];simp
  rcases zFK hcalm hgt hr hrx with hb|hf
  ·rw[late x ox hox hb];simp;omega
  exact absurd hm (hf.rm id hid)
 -- the state behind it
 have nextM:memD (uG (listed.setIfInBounds j true)) 0 l (nth h)=upd (memD D 0 l (nth h)) r.p:=funext fun id =>
  zOV l 0 _ (Nat.zero_le _) hr hDj hD' fun x rx hrx hlt hDx hm=>by
   rw[Nat.zero_add] at hlt hDx;obtain⟨ox,hox⟩:=operOf x rx hrx;rcases zFK hcalm hlt hr hrx with hb|hf
   ·rw[late x ox hox hb] at hDx;cases hDx
   exact hf.mm id hm
 have nextT:∀t,get (envD (uG (listed.setIfInBounds j true)) 0 A.toList l T) t=get (putT (envD D 0 A.toList l T) o.dst r.v) t:=fun t=>by
  rw[zCX];refine zOX A.toList l 0 T (Nat.zero_le _) hoL hr hDj hD' fun x ox hox hlt hDx hdt=>?_
  rw[Nat.zero_add] at hlt hDx;rcases zGk hst hlt hoL hox with hb|⟨hap,_⟩
  ·rw[late x ox hox hb] at hDx;cases hDx
  exact(zGq hap hdt).2
 have nextC:zKK A.toList (uG (listed.setIfInBounds j true)):=fun x ox hox hx e he hb=>by
  rw[hD'] at hx ⊢;rw[Bool.or_eq_true] at hx ⊢;rcases hx with hx|hx
  ·exact .inl (hclosed x ox hox hx e he hb)
  have:=of_decide_eq_true hx;subst this;rw[hoL] at hox;cases hox;exact .inl (hedges' e he hb)
 have hdj:∀d,o.dst=some d→d<a.tmps.size:=fun d hd=>by
  have key:∀ {os:List Oper} {n:Nat},qF k os=true→os[n]?=some o→d<k:=by
   intro os
   induction os with
   |nil=>intro n _ hn;simp at hn
   |cons x os ih =>
    intro n hx hn;obtain⟨h1,h2⟩:=zEY hx;cases n with
    |zero=>simp only[List.getElem?_cons_zero,Option.some.injEq] at hn;subst hn;exact h1 d hd
    |succ n=>exact ih h2 (by simpa using hn)
  exact Nat.lt_of_lt_of_le (key hdst hoL) hi.tsz
 have goOn:∀u w' γ',Ext γ (memD D 0 l (nth h)) γ' (upd (memD D 0 l (nth h)) r.p)→HR γ' (upd (memD D 0 l (nth h)) r.p) w'→Fr γ w γ' w'→VR γ' (upd (memD D 0 l (nth h)) r.p) r.v u→K (a.put o.dst u) w':=by
  intro u w' γ' e hh f hv;refine hK γ' _ w' ⟨by simp [hi.sz],by rw[nextM];exact hh,hi.base.mono f,fun t=>?_,by rw[zHq];exact hi.tsz,by rw[zEZ];exact hi.nd,hi.fr.trans f,?_,nextC⟩
  ·rw[nextM,nextT];have her:=hi.er;rw[hD] at her;exact(her.mono e).put hv hdj t
  rw[nextM];have hext:=hi.ext;rw[hD] at hext;exact hext.trans e
 obtain⟨n,hn1,hstp,hn3⟩:=zXx j 0 tr hoL hr;have hwT:wanted A.toList (envD D 0 A.toList l T) o=wanted A.toList (envD (fun x=>decide (x<0+j)) 0 A.toList l T) o :=
  zVE fun t ht=>agreeT t (List.mem_append_right _ ht)
 have her:=hi.er;have hhr:=hi.hr;rw[hD] at her hhr;unfold wpOpIn;simp only[ho];rcases hstp with ⟨hw,hrr⟩|⟨hw,hex,hreads⟩
 ·rw[zDa her (hwT.trans hw)];simp only[Bool.false_eq_true,if_false];have hp:r.p=[]:=by rw[hrr]
  have hv:r.v=.nov:=by rw[hrr]
  refine⟨fun _ _=>trivial,goOn undef w γ ?_ ?_ (.refl _ _) ?_⟩
  ·rw[hp];exact .refl _ _
  ·rw[hp];exact hhr
  rw[hv];exact .nov
 rw[zDa her (hwT.trans hw)];simp only[if_true];have hexD:exec1 C ρ (memD D 0 l (nth h)) n (envD D 0 A.toList l T) o=some (.val r.v,r.p):=by
  rw[zZx (T:=envD (fun x=>decide (x<0+j)) 0 A.toList l T) fun x hx=>zTu fun t ht=>agreeT t (List.mem_append_left _ (zLq (by rw[← ht];exact hx)))];exact zWE hex fun id hid=>agreeM id (by rw[hreads];exact hid)
 refine zF2 hρ hpr hhr hi.base her hexD (fun i x hni hix=>?_) goOn;have him:i ∈ r.mods:=List.mem_map.2 ⟨(i,x),hix,rfl⟩;have hg:memD D 0 l (nth h) i=none:=by
  have h1:memD D 0 l (nth h) i=memD (fun _=>false) 0 l (nth h) i:=by
   refine zE0 l 0 _ _ rfl fun y ry hry hm=>?_
   rw[Nat.zero_add];obtain⟨oy,hoy⟩:=operOf y ry hry;rcases Nat.lt_trichotomy y j with hlt|heq|hgt
   ·have:=hn3 y hlt ry hry i hm;omega
   ·subst heq;exact hDj
   rcases zFK hcalm hgt hr hry with hb|hf
   ·exact late y oy hoy hb
   exact absurd hm (hf.mm i him)
  rw[h1,zFO l 0 _ fun _ _=>rfl,yP];exact List.getElem?_eq_none (by omega)
 refine⟨?_,hg⟩;cases hb:γ.β i with
 |none=>rfl
 |some b=>obtain⟨o',ho',_⟩:=hhr.obj i b hb;rw[hg] at ho';cases ho'
theorem zTB (hρ:xW C.P w0 ρ) (hpr:uV C w0) (tr:Tr C ρ A.toList A.toList l T h T' h') (hst:zCD A.toList=true) (hcalm:calm (masks A.toList) (zBf (uB 0 l))=true)
  (hdst:qF k A.toList=true) (hnd:DR γ0 (nth h) wi e (get T k) d0) (hgk:get T' k=get T k) (hew:e≤wi.heap.size) (hro:rr.isSome=true→get T k=.rnd) (hQ:∀ γ' a' w',Inv w0 rr e k γ' h' T' a' w'→Fr γ0 wi γ' w'→Ext γ0 (nth h) γ' (nth h')→Q .normal a' w') :
  ∀(fuel:Nat) (listed:Array Bool) (γ:G) (a:Act) (w:World),zCq listed.toList≤fuel→DInv w0 d0 k A l T (nth h) γ0 wi listed γ a w→wpAnyIn (Wd rr) 0 C.P .any A Q fuel listed a w:=by
 have hall:∀(listed:Array Bool) (γ:G) (a:Act) (w:World),DInv w0 d0 k A l T (nth h) γ0 wi listed γ a w→(∀x,x<A.size→uG listed x=true)→Q .normal a w:=by
  intro listed γ a w hi hd;obtain⟨h1,h2⟩:=zTD (D:=uG listed) 0 tr fun x _ hx=>hd x (by simpa using hx)
  have e1:=hi.er;have e2:=hi.hr;have e3:=hi.ext;rw[h1,h2] at e1;rw[h2] at e2 e3;exact hQ γ a w ⟨e2,hi.base,e1,hi.tsz,by rw[hi.nd,hgk];exact hnd.mono e3 hi.fr,Nat.le_trans hew hi.fr.size,fun hh=>by rw[hgk];exact hro hh⟩ hi.fr e3
 have hempty:∀(listed:Array Bool) (γ:G) (a:Act) (w:World),DInv w0 d0 k A l T (nth h) γ0 wi listed γ a w→Region.ready .any A listed=[]→Q .normal a w:=by
  intro listed γ a w hi he;refine hall listed γ a w hi ?_;intro x
  induction x using Nat.strongRecOn with
  |_ x ih =>
   intro hx;cases hd:uG listed x with
   |true=>rfl
   |false =>
    have hxl:x<listed.size:=by rw[hi.sz];exact hx
    have hmem:x ∈ Region.ready .any A listed:=by
     refine mem_ready.2 ⟨?_,A[x],Array.getElem?_eq_getElem hx,fun e he hb=>?_⟩
     ·unfold uG at hd;simp only[Array.getD_eq_getD_getElem?,Array.getElem?_eq_getElem hxl,Option.getD_some] at hd ⊢;exact hd
     have hst':=hst;unfold zCD at hst';rw[Bool.and_eq_true] at hst';have:=zHJ hst'.1 x A[x] (by simp [hx]) e (by simpa using he) hb;exact ih e.on (by omega) (by omega)
    rw[he] at hmem;cases hmem
 intro fuel
 induction fuel with
 |zero =>
  intro listed γ a w hu hi;have hz:=zJo (Nat.le_zero.1 hu);have hd:∀x,x<A.size→listed[x]?=some true:=fun x hx=>by
   have:=hz x (by simp [hi.sz,hx])
   simpa using this
  refine⟨?_,hall listed γ a w hi fun x hx=>?_⟩
  ·cases hr:Region.ready .any A listed with
   |nil=>rfl
   |cons x xs =>
    have hx:x ∈ Region.ready .any A listed:=by rw[hr];exact .head _
    obtain⟨h1,o,ho,_⟩:=mem_ready.1 hx;have hxs:x<A.size:=(Array.getElem?_eq_some_iff.1 ho).1;rw[Array.getD_eq_getD_getElem?,hd x hxs] at h1;cases h1
  unfold uG;rw[Array.getD_eq_getD_getElem?,hd x hx]
  rfl
 |succ fuel ih =>
  intro listed γ a w hu hi;refine⟨hempty listed γ a w hi,fun j hj=>?_⟩;refine zOA hρ hpr tr hst hcalm hdst hi hj fun γ' a' w' hi'=>ih _ γ' a' w' ?_ hi'
  obtain⟨hnl,o,ho,_⟩:=mem_ready.1 hj;have hjs:j<listed.size:=by rw[hi.sz];exact(Array.getElem?_eq_some_iff.1 ho).1
  have hjf:listed.toList[j]?=some false:=by
   simp only[Array.getD_eq_getD_getElem?,Array.getElem?_eq_getElem hjs,Option.getD_some] at hnl;simp [hjs,hnl]
  have:=zKF hjf;rw[Array.toList_setIfInBounds];omega
end
def zHg{C:Cfg}{ρ:Oracle}{k:Nat}{ops:List Oper}:∀ {rest:List Oper} {T:Env} {h:Heap} {l:List Rec} {T':Env} {h':Heap},xF C ρ ops rest T h=some (l,T',h')→qF k rest=true→get T' k=get T k
 |[],T,h,l,T',h',hx,_=>by simp only[xF,Option.some.injEq,Prod.mk.injEq] at hx;rw[hx.2.1]
 |o::rest,T,h,l,T',h',hx,hd=>by
  obtain⟨hd1,hd2⟩:=zEY hd;unfold xF at hx;split at hx
  ·cases hx
  ·split at hx
   ·cases hx
   rename_i l1 T1 h1 hr;cases hx;rw[zHg hr hd2,zD6 hd1]
  split at hx
  ·cases hx
  ·cases hx
  split at hx
  ·cases hx
  split at hx
  ·cases hx
  rename_i l1 T1 h1 hr;cases hx;rw[zHg hr hd2,zD6 hd1]
def zWr{C:Cfg}{w0:World}(hm:C.P.follows .mixedOrders=true)(hpr:uV C w0)(ρ:Oracle)(hρ:xW C.P w0 ρ):zCV C ρ w0:=by
 intro rr e k m id ops draw st r st' γ a w Q hx hi hp;unfold region at hx;split at hx
 ·cases hx
 rename_i hdst;cases draw with
 |true =>
  simp only at hx;split at hx
  ·rename_i l T h hst hrun;split at hx
   ·rename_i hcalm;cases hx;refine wpIn_region_any hm ?_;have hi':DInv w0 a.defers k ops l st.T (nth st.h) γ w (Array.replicate ops.size false) γ a { w with drawn:=w.drawn+1 }:=by
     have hno:∀x,uG (Array.replicate ops.size false) x=false:=fun x=>by
      unfold uG;rw[Array.getD_eq_getD_getElem?,Array.getElem?_replicate];split<;>rfl
     have em:memD (uG (Array.replicate ops.size false)) 0 l (nth st.h)=nth st.h:=zFO l 0 _ fun x _=>hno x
     have ee:envD (uG (Array.replicate ops.size false)) 0 ops.toList l st.T=st.T:=zHX _ l 0 _ fun x _=>hno x
     refine⟨by simp,?_,⟨hi.base.1,fun b hb=>hi.base.2 b hb⟩,?_,hi.sz,rfl,⟨Nat.le_refl _,fun _ _ _=>rfl,fun i b hb=>.inr ⟨i,hb⟩,fun _ _ _ hv=>.inl hv,rfl,rfl⟩,?_,fun j o _ hd=>?_⟩
     ·rw[em];exact hi.hr.of_keep fun b _=>rfl
     ·rw[em,ee];exact hi.er
     ·rw[em];exact .refl _ _
     rw[hno] at hd;cases hd
    refine zTB hρ hpr (zH6 hrun) hst hcalm hdst hi.nd (zHg hrun hdst) hi.ew hi.ro (fun γ' a' w' i1 f1 e1=>hp γ' a' w' i1 f1 e1.imm (e1.keep m)) ops.size _ γ a _ ?_ hi';rw[Array.toList_replicate,zFA];exact Nat.le_refl _
   cases hx
  cases hx
 |false =>
  simp only at hx;split at hx
  ·cases hx
  ·rename_i T h hrun;cases hx;refine wpIn_region ?_;rw[List.range_eq_range'];have:=zDk hρ hpr (Q:=Q) ops.toList 0 rfl st.T st.h γ a w none T h hrun hi hdst (fun γ' a' w' _ i1 f1 e1=>hp γ' a' w' i1 f1 e1.imm (e1.keep m)) (fun γ' a' w' v u hv=>by cases hv)
   simpa using this
  rename_i v T h hrun;cases hx;refine wpIn_region ?_;rw[List.range_eq_range'];have:=zDk hρ hpr (Q:=Q) ops.toList 0 rfl st.T st.h γ a w (some v) T h hrun hi hdst (fun γ' a' w' hv=>by cases hv)
   (fun γ' a' w' v' u hv i1 f1 e1 hu=>by cases hv;exact hp γ' a' w' i1 f1 e1.imm (e1.keep m) u hu)
  simpa using this
def zPv{C:Cfg}{w0:World}(hm:C.P.follows .mixedOrders=true)(hpr:uV C w0)(n:Nat):xW C.P w0 (zBy C n) :=
 zOt hpr (fun ρ hρ=>zWr hm hpr ρ hρ) n
structure Ask where
 f:FuncId
 args:List AV
 h:Heap
 r:Out×Heap
def Sat(ρ:Oracle)(L:List Ask):Prop:=∀q ∈ L,ρ q.f q.args q.h=some q.r
theorem Sat.nil{ρ:Oracle}:Sat ρ []:=fun _ h=>by simp at h
theorem Sat.append{ρ:Oracle}{L L':List Ask}:Sat ρ (L++L')↔Sat ρ L∧Sat ρ L':=by
 simp only[Sat,List.mem_append];exact⟨fun h=>⟨fun q hq=>h q (.inl hq),fun q hq=>h q (.inr hq)⟩,fun h q hq=>hq.elim (h.1 q) (h.2 q)⟩
def Uses{α:Type}(F:Oracle→Nat→Option α):Prop :=
 ∀ ρ n r,F ρ n=some r→∃L,Sat ρ L∧∀ ρ' n',n≤n'→Sat ρ' L→F ρ' n'=some r
theorem Uses.const{α:Type}(x:Option α):Uses (fun _ _=>x):=fun _ _ _ h=>⟨[],Sat.nil,fun _ _ _ _=>h⟩
theorem Uses.ask(f:FuncId)(args:List AV)(h:Heap):Uses (fun ρ _=>ρ f args h) :=
 fun ρ n r hx=>⟨[⟨f,args,h,r⟩],fun q hq=>by rw[List.mem_singleton.1 hq];exact hx,fun ρ' n' _ hs=>hs ⟨f,args,h,r⟩ (List.mem_singleton.2 rfl)⟩
theorem Uses.bind {α β:Type} {F:Oracle→Nat→Option α} {G:α→Oracle→Nat→Option β} (hF:Uses F) (hG:∀a,Uses (G a)) :
  Uses (fun ρ n=>match F ρ n with|none=>none|some a=>G a ρ n):=by
 intro ρ n r hx;dsimp only at hx;cases hf:F ρ n with
 |none=>rw[hf] at hx;cases hx
 |some a =>
  rw[hf] at hx;obtain⟨L,h1,h2⟩:=hF ρ n a hf;obtain⟨L',h3,h4⟩:=hG a ρ n r hx;refine⟨L++L',Sat.append.2 ⟨h1,h3⟩,fun ρ' n' hn hs=>?_⟩
  show (match F ρ' n' with|none=>none|some a=>G a ρ' n')=some r
  rw[h2 ρ' n' hn (Sat.append.1 hs).1];exact h4 ρ' n' hn (Sat.append.1 hs).2
theorem Uses.congr{α:Type}{F G:Oracle→Nat→Option α}(h:∀ ρ n,F ρ n=G ρ n)(hG:Uses G):Uses F:=by
 have:F=G:=funext fun ρ=>funext fun n=>h ρ n
 rw[this];exact hG
theorem Uses.of {α β:Type} {F:Oracle→Nat→Option α} {H:Oracle→Nat→Option β} (hF:Uses F) (G:α→Oracle→Nat→Option β) (hG:∀a,Uses (G a))
  (h:∀ ρ n,H ρ n=match F ρ n with|none=>none|some a=>G a ρ n):Uses H :=
 Uses.congr h (hF.bind hG)
def zE4(g1:Look)(frz:Patch)(nid:Nat)(f:FuncId)(args:List AV):Uses (fun ρ _=>uC ρ g1 frz nid f args):=by
 unfold uC;cases reach g1 100000 (wQ g1 args) [] with
 |none=>exact .const none
 |some ids =>
  dsimp only;cases sub g1 ids with
  |none=>exact .const none
  |some h =>
   dsimp only;refine Uses.of (.ask f (renL g1 ids args) h) (fun a _ _=>match a with
    |(Out.val v,h')=>some (Out.val (xL g1 frz nid ids v h').1,(xL g1 frz nid ids v h').2)
    |(Out.pan v,h')=>some (Out.pan (xL g1 frz nid ids v h').1,(xL g1 frz nid ids v h').2)) (fun a=>.const _) ?_
   intro ρ n;cases ρ f (renL g1 ids args) h with
   |none=>rfl
   |some a=>obtain⟨o,h'⟩:=a;cases o<;>rfl
def zFY(C:Cfg)(g:Look)(nid:Nat)(f:FuncId)(args:List AV):Uses (fun ρ _=>zAk C ρ g nid f args):=by
 unfold zAk;cases C.byRef f with
 |true =>
  dsimp only;cases yX C.P f with
  |true=>exact zE4 _ _ _ _ _
  |false=>exact .const none
 |false =>
  dsimp only;cases C.prim f (args.map (view g)) with
  |some v=>exact .const _
  |none =>
   dsimp only;cases yX C.P f with
   |true=>exact zE4 _ _ _ _ _
   |false=>exact .const none
def zUQ(C:Cfg)(g:Look)(nid:Nat)(T:Env)(c:Call):Uses (fun ρ _=>qS C ρ g nid T c):=by
 unfold qS;cases c.callee with
 |value f =>
  dsimp only;generalize zM T f=v;cases v with
  |t x =>
   cases x with
   |fn f=>exact zFY _ _ _ _ _
   |_=>exact .const none
  |fn f a b=>exact zFY _ _ _ _ _
  |yld id=>exact zE4 _ _ _ _ _
  |_=>exact .const none
 |builtin b=>cases b<;>exact .const _
 |_=>exact .const none
def zID(C:Cfg)(g:Look)(nid:Nat)(T:Env)(o:Oper):Uses (fun ρ _=>exec1 C ρ g nid T o):=by
 unfold exec1;generalize o.op=op;cases op with
 |call c=>exact zUQ _ _ _ _ _
 |makeFunc f a b=>cases f<;>exact .const _
 |next it s=>cases s<;>exact .const _
 |makeMap t r=>cases r<;>exact .const _
 |_=>exact .const _
def zE8(C:Cfg)(k:Nat)(ops:List Oper):∀(l:List Oper) (T:Env) (h:Heap),Uses (fun ρ _=>xH C ρ k ops l T h)
 |[],T,h=>by unfold xH;exact .const _
 |o::rest,T,h=>by
  unfold xH;cases wanted ops T o with
  |none=>exact .const none
  |some b =>
   skip
   cases b with
   |false=>exact zE8 C k ops rest _ _
   |true =>
    dsimp only;cases zAG o with
    |some c =>
     dsimp only;cases deferred T c with
     |none=>exact .const none
     |some d =>
      dsimp only;cases jE k d T with
      |none=>exact .const none
      |some T'=>exact zE8 C k ops rest _ _
    |none =>
    refine Uses.of (zID C (nth h) h.length T o) (fun a ρ _=>match a with
      |(Out.pan v,p)=>some (some v,T,patch h p)
      |(Out.val v,p)=>xH C ρ k ops rest (putT T o.dst v) (patch h p)) (fun a=>?_) ?_
    ·obtain⟨o',p⟩:=a;cases o' with
     |pan v=>exact .const _
     |val v=>exact zE8 C k ops rest _ _
    intro ρ n;cases exec1 C ρ (nth h) h.length T o with
    |none=>rfl
    |some a=>obtain⟨o,p⟩:=a;cases o<;>rfl
def zHc(C:Cfg)(ops:List Oper):∀(l:List Oper) (T:Env) (h:Heap),Uses (fun ρ _=>xF C ρ ops l T h)
 |[],T,h=>by unfold xF;exact .const _
 |o::rest,T,h=>by
  unfold xF;cases wanted ops T o with
  |none=>exact .const none
  |some b =>
   skip
   cases b with
   |false =>
    dsimp only;refine Uses.of (zHc C ops rest (putT T o.dst .nov) h) (fun a _ _=>some (⟨[],.nov,[]⟩::a.1,a.2.1,a.2.2)) (fun a=>.const _) ?_;intro ρ n;cases xF C ρ ops rest (putT T o.dst .nov) h with
    |none=>rfl
    |some a=>obtain⟨l,T',h'⟩:=a;rfl
   |true =>
    refine Uses.of (zID C (nth h) h.length T o) (fun a ρ _=>match a with
      |(Out.pan _,_)=>none
      |(Out.val v,p)=>match uA h.length p with
       |false=>none
       |true=>match xF C ρ ops rest (putT T o.dst v) (patch h p) with
        |none=>none
        |some (l,T',h')=>some (⟨foot C (nth h) T o,v,p⟩::l,T',h')) (fun a=>?_) ?_
    ·obtain⟨o',p⟩:=a;cases o' with
     |pan v=>exact .const _
     |val v =>
      dsimp only;cases uA h.length p with
      |false=>exact .const _
      |true =>
       dsimp only;refine Uses.of (zHc C ops rest (putT T o.dst v) (patch h p)) (fun b _ _=>some (⟨foot C (nth h) T o,v,p⟩::b.1,b.2.1,b.2.2)) (fun b=>.const _) ?_;intro ρ n;cases xF C ρ ops rest (putT T o.dst v) (patch h p) with
       |none=>rfl
       |some b=>obtain⟨l,T',h'⟩:=b;rfl
    intro ρ n;cases exec1 C ρ (nth h) h.length T o with
    |none=>rfl
    |some a=>obtain⟨o,p⟩:=a;cases o<;>rfl
def zSb(C:Cfg)(k:Nat)(ops:List Oper)(draw:Bool)(st:St):Uses (fun ρ _=>region C ρ k ops draw st):=by
 unfold region;cases qF k ops with
 |false=>exact .const none
 |true =>
  dsimp only;cases draw with
  |true =>
   dsimp only;cases zCD ops with
   |false=>exact Uses.const none
   |true =>
    refine Uses.of (zHc C ops ops st.T st.h) (fun a _ _=>match calm (masks ops) (zBf (uB 0 a.1)) with
      |true=>some (Ex.normal,⟨a.2.1,a.2.2⟩)
      |false=>none) (fun a=>.const _) ?_
    intro ρ n;cases xF C ρ ops ops st.T st.h with
    |none=>rfl
    |some a=>obtain⟨l,T,h⟩:=a;rfl
  |false =>
   refine Uses.of (zE8 C k ops ops st.T st.h) (fun a _ _=>match a with
     |(none,T,h)=>some (Ex.normal,⟨T,h⟩)
     |(some v,T,h)=>some (Ex.pan v,⟨T,h⟩)) (fun a=>.const _) ?_
   intro ρ n;cases xH C ρ k ops ops st.T st.h with
   |none=>rfl
   |some a=>obtain⟨o,T,h⟩:=a;cases o<;>rfl
def zG8 {gc:St→Option St} {body:Oracle→Nat→St→Option (Ex×St)} (hb:∀st,Uses (fun ρ n=>body ρ n st)) :
  ∀(fuel:Nat) (st:St) (ρ:Oracle) (n:Nat) (r:Ex×St),iter gc (body ρ n) fuel st=some r →
   ∃L,Sat ρ L∧∀ ρ' n' fuel',n≤n'→fuel≤fuel'→Sat ρ' L→iter gc (body ρ' n') fuel' st=some r
 |0,st,ρ,n,r,hx=>by simp [iter] at hx
 |fuel+1,st,ρ,n,r,hx=>by
  unfold iter at hx;cases hg:gc st with
  |none=>rw[hg] at hx;cases hx
  |some st1 =>
   rw[hg] at hx;dsimp only at hx;cases hbd:body ρ n st1 with
   |none=>rw[hbd] at hx;cases hx
   |some a =>
    obtain⟨e,st2⟩:=a;obtain⟨L,h1,h2'⟩:=hb st1 ρ n _ hbd;have h2:∀ ρ' n',n≤n'→Sat ρ' L→body ρ' n' st1=some (e,st2):=h2';clear h2';rw[hbd] at hx;have stop:∀(hr:some (e,st2)=some r),(∀x,e=.normal→x=fuel→False)→∃L,Sat ρ L∧∀ ρ' n' fuel',n≤n'→fuel+1≤fuel'→Sat ρ' L→iter gc (body ρ' n') fuel' st=some r:=by
     intro hr hne;refine⟨L,h1,fun ρ' n' fuel' hn hf hs=>?_⟩;obtain⟨f',rfl⟩:∃f',fuel'=f'+1:=⟨fuel' - 1,by omega⟩;unfold iter;rw[hg];dsimp only;rw[h2 ρ' n' hn hs];cases e with
     |normal=>exact(hne fuel rfl rfl).elim
     |_=>exact hr
    cases e with
    |normal =>
     dsimp only at hx;obtain⟨L',h3,h4⟩:=zG8 hb fuel st2 ρ n r hx;refine⟨L++L',Sat.append.2 ⟨h1,h3⟩,fun ρ' n' fuel' hn hf hs=>?_⟩;obtain⟨f',rfl⟩:∃f',fuel'=f'+1:=⟨fuel' - 1,by omega⟩;unfold iter;rw[hg];dsimp only;rw[h2 ρ' n' hn (Sat.append.1 hs).1];exact h4 ρ' n' f' hn (by omega) (Sat.append.1 hs).2
    |_=>exact stop hx (fun _ h=>by cases h)
def zVg(C:Cfg)(g:Look)(nid:Nat)(f:AV)(args:List AV):Uses (fun ρ _=>zFX C ρ g nid f args):=by
 unfold zFX;cases f with
 |t x =>
  cases x with
  |fn f=>exact zFY _ _ _ _ _
  |_=>exact .const none
 |fn f a b=>exact zFY _ _ _ _ _
 |_=>exact .const none
def zR8(C:Cfg)(k:Nat)(keep:Nat→Option (List Nat))(f:Operand)(ps:List Nat)(asg body:Code)(st:St):Uses (fun ρ _=>zEt C ρ k keep f ps asg body st):=by
 unfold zEt;cases zD5 k (xN keep body) st.T with
 |none=>exact .const none
 |some T' =>
  cases jE k .nov st.T with
  |none=>exact .const none
  |some T1 =>
   try dsimp only
   refine Uses.of (zVg C (upd (nth st.h) [(st.h.length,.loop ⟨k,kfOf keep,ps,asg,body⟩ T' 0 none)]) (st.h.length+1) (zM st.T f) [.yld st.h.length]) (fun a _ _=>match a with
    |(Out.pan _,_)=>none
    |(Out.val _,p)=>match nth (patch (patch st.h [(st.h.length,.loop ⟨k,kfOf keep,ps,asg,body⟩ T' 0 none)]) p) st.h.length with
     |some (.loop c T2 b jump)=>match Nat.beq b 1 with
      |true=>none
      |false=>zEA jump ⟨T1,patch (patch (patch st.h [(st.h.length,.loop ⟨k,kfOf keep,ps,asg,body⟩ T' 0 none)]) p) [(st.h.length,.loop c T2 3 jump)]⟩
     |_=>none) (fun a=>.const _) ?_
   intro ρ n
   try dsimp only
   cases zFX C ρ (upd (nth st.h) [(st.h.length,.loop ⟨k,kfOf keep,ps,asg,body⟩ T' 0 none)]) (st.h.length+1) (zM st.T f) [.yld st.h.length] with
   |none=>rfl
   |some a=>obtain⟨o,p⟩:=a;cases o<;>rfl
def uO(C:Cfg)(m k:Nat)(keep:Nat→Option (List Nat)):∀(c:Code) (st:St),Uses (fun ρ n=>exec C ρ n m k keep c st)
 |.skip,st=>by unfold exec;exact .const _
 |.region _ ops draw,st=>by unfold exec;exact zSb _ _ _ _ _
 |.seq a b,st=>by
  unfold exec;refine Uses.of (uO C m k keep a st) (fun r ρ n=>match r with
    |(Ex.normal,st)=>exec C ρ n m k keep b st
    |r=>some r) (fun r=>?_) ?_
  ·obtain⟨e,st'⟩:=r;cases e with
   |normal=>exact uO C m k keep b st'
   |_=>exact .const _
  intro ρ n
  skip
  cases exec C ρ n m k keep a st with
  |none=>rfl
  |some r=>obtain⟨e,st⟩:=r;cases e<;>rfl
 |.cond c a b,st=>by
  unfold exec;generalize zM st.T c=v;cases v with
  |t x =>
   cases x with
   |bool v=>cases v with
    |true=>exact uO C m k keep a st
    |false=>exact uO C m k keep b st
   |_=>exact .const none
  |_=>exact .const none
 |.block id b,st=>by
  unfold exec;refine Uses.of (uO C m k keep b st) (fun r _ _=>match r with
    |(Ex.exit id',st)=>if id'=id then some (Ex.normal,st) else some (Ex.exit id',st)
    |r=>some r) (fun r=>.const _) ?_
  intro ρ n
  skip
  cases exec C ρ n m k keep b st with
  |none=>rfl
  |some r=>obtain⟨e,st⟩:=r;cases e<;>rfl
 |.loop b,st=>by
  intro ρ n r hx;unfold exec at hx;obtain⟨L,h1,h2⟩:=zG8 (body:=fun ρ n st=>exec C ρ n m k keep b st) (fun st=>uO C m k keep b st) n st ρ n r hx;refine⟨L,h1,fun ρ' n' hn hs=>?_⟩
  show exec C ρ' n' m k keep (.loop b) st=some r
  unfold exec;exact h2 ρ' n' n' hn hn hs
 |.exit id,st=>by unfold exec;exact .const _
 |.scope b,st=>by unfold exec;exact uO C m k keep b st
 |.label _,st=>by unfold exec;exact .const _
 |.ret,st=>by unfold exec;exact .const _
 |.rangeFunc f ps asg body,st=>by unfold exec;exact zR8 _ _ _ _ _ _ _ _
 |.goto _,st=>by unfold exec;exact .const none
 |.refuse _,st=>by unfold exec;exact .const none
def zEw(C:Cfg)(f:FuncId)(fn:Func)(m:Nat):∀(ds:List AV) (u:Pn) (T:Env) (h:Heap),Uses (fun ρ _=>leave C ρ f fn m ds u T h)
 |[],none,T,h=>by unfold leave;exact .const _
 |[],some (x,false),T,h=>by unfold leave;exact .const _
 |[],some (x,true),T,h=>by unfold leave;exact .const none
 |v::ds,u,T,h=>by
  cases v with
  |nov=>unfold leave;exact zEw C f fn m ds u T h
  |fn g first captured =>
   unfold leave;cases yX C.P g with
   |false=>exact .const none
   |true =>
    try dsimp only
    refine Uses.of (zE4 (nth h) [] h.length (xD+g) (pnAV u::(first++captured))) (fun a ρ _=>match a with
     |(Out.val v,p)=>match avPn v with
      |some u=>leave C ρ f fn m ds u T (patch h p)
      |none=>none
     |_=>none) (fun a=>?_) ?_
    ·obtain⟨o,p⟩:=a;cases o with
     |pan v=>exact .const none
     |val v =>
      try dsimp only
      cases avPn v with
      |none=>exact .const none
      |some u=>exact zEw C f fn m ds u T (patch h p)
    intro ρ n
    try dsimp only
    cases uC ρ (nth h) [] h.length (xD+g) (pnAV u::(first++captured)) with
    |none=>rfl
    |some a=>obtain⟨o,p⟩:=a;cases o<;>rfl
  |_=>unfold leave;exact .const none
def zEa(C:Cfg)(ops:List Oper):∀(l:List Oper) (T:Env) (h:Heap) (u:Pn),Uses (fun ρ _=>qN C ρ ops l T h u)
 |[],T,h,u=>by unfold qN;exact .const _
 |o::rest,T,h,u=>by
  unfold qN;cases wanted ops T o with
  |none=>exact .const none
  |some b =>
   cases b with
   |false=>exact zEa C ops rest _ _ _
   |true =>
    try dsimp only
    cases zA4 o with
    |true=>exact zEa C ops rest _ _ _
    |false =>
     try dsimp only
     cases zIV o.op with
     |false=>exact .const none
     |true =>
      refine Uses.of (zID C (nth h) h.length T o) (fun a ρ _=>match a with
       |(Out.val v,p)=>qN C ρ ops rest (putT T o.dst v) (patch h p) u
       |_=>none) (fun a=>?_) ?_
      ·obtain⟨o',p⟩:=a;cases o' with
       |pan v=>exact .const _
       |val v=>exact zEa C ops rest _ _ _
      intro ρ n
      try dsimp only
      cases exec1 C ρ (nth h) h.length T o with
      |none=>rfl
      |some a=>obtain⟨o,p⟩:=a;cases o<;>rfl
def zFN(C:Cfg)(m k:Nat)(keep:Nat→Option (List Nat))(c:Code)(st:St)(u:Pn):Uses (fun ρ n=>zE3 (exec C ρ n m k keep c st) u):=by
 refine Uses.of (uO C m k keep c st) (fun a _ _=>some (a.1,a.2,u)) (fun a=>.const _) ?_;intro ρ n
 try dsimp only
 cases exec C ρ n m k keep c st with
 |none=>rfl
 |some a=>rfl
def zMI(C:Cfg)(m k:Nat)(keep:Nat→Option (List Nat)):∀(c:Code) (st:St) (u:Pn),Uses (fun ρ n=>uK C ρ n m k keep c st u):=by
 intro c
 induction c with
 |region id ops draw =>
  intro st u;cases draw with
  |true=>unfold uK;exact zFN _ _ _ _ _ _ _
  |false =>
   unfold uK;cases ops.toList.any zA4 with
   |false=>exact zFN _ _ _ _ _ _ _
   |true =>
    try dsimp only
    cases qF k ops.toList with
    |false=>exact .const none
    |true =>
     refine Uses.of (zEa C ops.toList ops.toList st.T st.h u) (fun a _ _=>some (Ex.normal,⟨a.1,a.2.1⟩,a.2.2)) (fun a=>.const _) ?_;intro ρ n
     try dsimp only
     cases qN C ρ ops.toList ops.toList st.T st.h u with
     |none=>rfl
     |some a=>rfl
 |seq x y ihx ihy =>
  intro st u;unfold uK;cases zA9 x with
  |true =>
   refine Uses.of (ihx st u) (fun a ρ n=>match a with
    |(Ex.normal,st,u)=>zE3 (exec C ρ n m k keep y st) u
    |r=>some r) (fun a=>?_) ?_
   ·obtain⟨e,st1,u1⟩:=a;cases e with
    |normal=>exact zFN _ _ _ _ _ _ _
    |_=>exact .const _
   intro ρ n
   try dsimp only
   cases uK C ρ n m k keep x st u with
   |none=>rfl
   |some a=>obtain⟨e,st1,u1⟩:=a;cases e<;>rfl
  |false =>
   refine Uses.of (uO C m k keep x st) (fun a ρ n=>match a with
    |(Ex.normal,st)=>uK C ρ n m k keep y st u
    |(e,st)=>some (e,st,u)) (fun a=>?_) ?_
   ·obtain⟨e,st1⟩:=a;cases e with
    |normal=>exact ihy st1 u
    |_=>exact .const _
   intro ρ n
   try dsimp only
   cases exec C ρ n m k keep x st with
   |none=>rfl
   |some a=>obtain⟨e,st1⟩:=a;cases e<;>rfl
 |_=>intro st u;unfold uK;exact zFN _ _ _ _ _ _ _
def zTn(C:Cfg)(f:FuncId)(args:List AV)(h:Heap):Uses (fun ρ n=>zJh C ρ n f args h):=by
 unfold zJh;cases args with
 |nil=>exact .const none
 |cons a args =>
  try dsimp only
  cases avPn a with
  |none=>exact .const none
  |some u =>
   cases nth C.P.funcs.toList f with
   |none=>exact .const none
   |some fn =>
    try dsimp only
    cases fn.body with
    |none=>exact .const none
    |some c =>
     try dsimp only
     cases Nat.ble args.length fn.ntmps with
     |false=>exact .const none
     |true =>
      refine Uses.of (zMI C h.length fn.ntmps (C.keep f) c ⟨zV 0 args,h⟩ u) (fun r _ _=>match r with
       |(Ex.normal,st,u)|(Ex.ret,st,u)=>match yI fn.ntmps st.T,results C.P fn st with
        |some [],some _=>match canon st.h h.length [] with
         |some (_,h)=>some (Out.val (pnAV (zC8 u)),h)
         |none=>none
        |_,_=>none
       |_=>none) (fun r=>.const _) ?_
      intro ρ n
      try dsimp only
      cases uK C ρ n h.length fn.ntmps (C.keep f) c ⟨zV 0 args,h⟩ u with
      |none=>rfl
      |some r=>obtain⟨e,st,u⟩:=r;cases e<;>rfl
def zVe(C:Cfg)(args:List AV)(h:Heap):Uses (fun ρ n=>zCO C ρ n args h):=by
 unfold zCO;split
 ·rename_i id as;split
  ·rename_i c T hobj;split
   ·rename_i T1 _ _;refine Uses.of (uO C h.length c.k (C.keep c.kf) c.asg ⟨T1,h⟩) (fun r ρ n=>match r with
     |(Ex.normal,st)=>match nth st.h id with
      |some (.loop c' T' 0 none)=>match exec C ρ n h.length c.k (C.keep c.kf) c.body ⟨st.T,patch st.h [(id,.loop c' T' 1 none)]⟩ with
       |some (e,st2)=>match zCO.endOf e,nth st2.h id with
        |some jump,some (.loop c2 T2 _ _)=>match canon (patch st2.h [(id,.loop c2 T2 (if jump.isNone then 0 else 2) jump)]) h.length [] with
         |some (_,h')=>some (Out.val (.t (.bool jump.isNone)),h')
         |none=>none
        |_,_=>none
       |none=>none
      |_=>none
     |_=>none) (fun r=>?_) ?_
    ·obtain⟨e,st⟩:=r;cases e with
     |normal =>
      try dsimp only
      split
      ·rename_i c' T' _;refine Uses.of (uO C h.length c.k (C.keep c.kf) c.body ⟨st.T,patch st.h [(id,.loop c' T' 1 none)]⟩) (fun r ρ n=>match zCO.endOf r.1,nth r.2.h id with
        |some jump,some (.loop c2 T2 _ _)=>match canon (patch r.2.h [(id,.loop c2 T2 (if jump.isNone then 0 else 2) jump)]) h.length [] with
         |some (_,h')=>some (Out.val (.t (.bool jump.isNone)),h')
         |none=>none
        |_,_=>none) (fun r=>.const _) ?_
       intro ρ n
       try dsimp only
       cases exec C ρ n h.length c.k (C.keep c.kf) c.body ⟨st.T,patch st.h [(id,.loop c' T' 1 none)]⟩ with
       |none=>rfl
       |some r=>rfl
      exact .const none
     |_=>exact .const none
    intro ρ n
    try dsimp only
    cases exec C ρ n h.length c.k (C.keep c.kf) c.asg ⟨T1,h⟩ with
    |none=>rfl
    |some r=>obtain⟨e,st⟩:=r;cases e<;>rfl
   exact .const none
  exact .const none
 exact .const none
def zUM(C:Cfg)(f:FuncId)(fn:Func)(c:Code)(args:List AV)(h:Heap):Uses (fun ρ n=>zCG C ρ n f fn c args h):=by
 unfold zCG;refine Uses.of (uO C h.length fn.ntmps (C.keep f) c ⟨zV 0 args,h⟩) (fun r ρ n=>match r with
   |(Ex.normal,st)|(Ex.ret,st)=>match yI fn.ntmps st.T with
    |some []=>match results C.P fn st with
     |none=>none
     |some v=>match yU C f h.length v st.h with
      |some (v,h)=>some (Out.val v,h)
      |none=>none
    |some ds=>leave C ρ f fn h.length ds none st.T st.h
    |none=>none
   |(Ex.pan v,st)=>match yI fn.ntmps st.T with
    |some []=>match yU C f h.length v st.h with
     |some (v,h)=>some (Out.pan v,h)
     |none=>none
    |some ds=>match v with
     |.t x=>leave C ρ f fn h.length ds (some (x,false)) st.T st.h
     |_=>none
    |none=>none
   |_=>none) (fun r=>?_) ?_
 ·obtain⟨e,st⟩:=r;cases e with
  |exit id=>exact .const none
  |normal =>
   try dsimp only
   split
   ·exact .const _
   ·exact zEw _ _ _ _ _ _ _ _
   exact .const none
  |ret =>
   try dsimp only
   split
   ·exact .const _
   ·exact zEw _ _ _ _ _ _ _ _
   exact .const none
  |pan v =>
   try dsimp only
   split
   ·exact .const _
   ·split
    ·exact zEw _ _ _ _ _ _ _ _
    exact .const none
   exact .const none
 intro ρ n
 try dsimp only
 cases exec C ρ n h.length fn.ntmps (C.keep f) c ⟨zV 0 args,h⟩ with
 |none=>rfl
 |some r=>obtain⟨e,st⟩:=r;cases e<;>rfl
def zIs(C:Cfg)(f:FuncId)(args:List AV)(h:Heap):Uses (fun ρ n=>zDp C ρ n f args h):=by
 unfold zDp;cases nth C.P.funcs.toList f with
 |none =>
  try dsimp only
  cases Nat.beq f vK with
  |true=>exact zVe C args h
  |false =>
   try dsimp only
   cases Nat.ble xD f with
   |true=>exact zTn C _ args h
   |false=>exact .const none
 |some fn =>
  try dsimp only
  cases fn.body with
  |none=>exact .const none
  |some c =>
   try dsimp only
   cases Nat.ble args.length fn.ntmps with
   |true=>exact zUM C f fn c args h
   |false=>exact .const none
def uP {C:Cfg} {ρ:Oracle} {m k n n':Nat} {keep:Nat→Option (List Nat)} {c:Code} {st:St} {r:Ex×St} (hn:n≤n')
  (hx:exec C ρ n m k keep c st=some r):exec C ρ n' m k keep c st=some r:=by
 obtain⟨L,h1,h2⟩:=uO C m k keep c st ρ n r hx;exact h2 ρ n' hn h1
def zKH{C:Cfg}:∀(n:Nat) {f:FuncId} {args:List AV} {h:Heap} {r:Out×Heap},zBy C n f args h=some r→zBy C (n+1) f args h=some r
 |0,f,args,h,r,hx=>by simp [zBy] at hx
 |n+1,f,args,h,r,hx=>by
  unfold zBy at hx ⊢;obtain⟨L,h1,h2⟩:=zIs C f args h _ _ _ hx;exact h2 _ _ (by omega) fun q hq=>zKH n (h1 q hq)
def zG4{C:Cfg}{n n':Nat}(hn:n≤n'){f:FuncId}{args:List AV}{h:Heap}{r:Out×Heap}(hx:zBy C n f args h=some r):zBy C n' f args h=some r:=by
 induction hn with
 |refl=>exact hx
 |step _ ih=>exact zKH _ ih
def Ev(C:Cfg)(f:FuncId)(args:List AV)(h:Heap)(r:Out×Heap):Prop:=∃n,zBy C n f args h=some r
theorem Ev.det{C:Cfg}{f:FuncId}{args:List AV}{h:Heap}{r r':Out×Heap}(a:Ev C f args h r)(b:Ev C f args h r'):r=r':=by
 obtain⟨n,hn⟩:=a;obtain⟨n',hn'⟩:=b;have h1:=zG4 (Nat.le_max_left n n') hn;have h2:=zG4 (Nat.le_max_right n n') hn';rw[h1] at h2;exact Option.some.inj h2
open Classical in
noncomputable def Om(C:Cfg):Oracle:=fun f args h=>if ex:∃r,Ev C f args h r then some ex.choose else none
def zLR{C:Cfg}{f:FuncId}{args:List AV}{h:Heap}{r:Out×Heap}:Om C f args h=some r↔Ev C f args h r:=by
 unfold Om;split
 ·rename_i ex
  constructor
  ·intro hx;cases hx;exact ex.choose_spec
  intro hx;exact congrArg some (ex.choose_spec.det hx)
 rename_i ex
 constructor
 ·intro hx;cases hx
 intro hx;exact(ex ⟨r,hx⟩).elim
def zS3{C:Cfg}:∀ {L:List Ask},Sat (Om C) L→∃N,∀n,N≤n→Sat (zBy C n) L
 |[],_=>⟨0,fun _ _=>Sat.nil⟩
 |q::L,h=>by
  obtain⟨N,hN⟩:=zS3 (L:=L) fun x hx=>h x (List.mem_cons_of_mem _ hx)
  obtain⟨N',hN'⟩:=zLR.1 (h q (List.mem_cons_self ..));refine⟨max N N',fun n hn x hx=>?_⟩;rcases List.mem_cons.1 hx with rfl|hx
  ·exact zG4 (by omega) hN'
  exact hN n (by omega) x hx
def zDP{C:Cfg}{n:Nat}{f:FuncId}{args:List AV}{h:Heap}{r:Out×Heap}(hx:zDp C (Om C) n f args h=some r):Om C f args h=some r:=by
 obtain⟨L,h1,h2⟩:=zIs C f args h _ _ _ hx;obtain⟨N,hN⟩:=zS3 h1;refine zLR.2 ⟨max N n+1,?_⟩;unfold zBy;exact h2 _ _ (by omega) (hN _ (by omega))
def jR{C:Cfg}{n:Nat}{f:FuncId}{args:List AV}{h:Heap}{r:Out×Heap}(hx:zBy C n f args h=some r):Om C f args h=some r:=zLR.2 ⟨n,hx⟩
def zGh{C:Cfg}{tbl:Oracle}(ht:∀f args h r,tbl f args h=some r→Om C f args h=some r):∀ {n:Nat} {f:FuncId} {args:List AV} {h:Heap} {r:Out×Heap},
  zI6 C tbl n f args h=some r→Om C f args h=some r
 |0,f,args,h,r,hx=>by simp [zI6] at hx
 |n+1,f,args,h,r,hx=>by
  unfold zI6 at hx;split at hx
  ·rename_i r' hr;cases hx;exact ht _ _ _ _ hr
  obtain⟨L,h1,h2⟩:=zIs C f args h _ _ _ hx;exact zDP (h2 (Om C) n (Nat.le_refl _) fun q hq=>zGh ht (h1 q hq))
def zV6{C:Cfg}{w0:World}(hm:C.P.follows .mixedOrders=true)(hpr:uV C w0):xW C.P w0 (Om C) :=
 fun f args h out h' hx=>by
  obtain⟨n,hn⟩:=zLR.1 hx;exact zPv hm hpr n f args h out h' hn
def W(C:Cfg)(m k:Nat)(keep:Nat→Option (List Nat))(c:Code)(st:St)(Q:Ex→St→Prop):Prop :=
 ∃n e st',exec C (Om C) n m k keep c st=some (e,st')∧Q e st'
section
variable {C:Cfg} {m k:Nat} {keep:Nat→Option (List Nat)} {st:St} {Q:Ex→St→Prop}
def zEm(C:Cfg)(m k:Nat)(keep:Nat→Option (List Nat))(b:Code)(Q:Ex→St→Prop):Ex→St→Prop
 |.normal,st=>W C m k keep b st Q
 |e,st=>Q e st
theorem W.mono{c:Code}{Q':Ex→St→Prop}(h:W C m k keep c st Q)(hq:∀e st,Q e st→Q' e st):W C m k keep c st Q':=by
 obtain⟨n,e,st',h1,h2⟩:=h;exact⟨n,e,st',h1,hq _ _ h2⟩
theorem zCr(h:Q .normal st):W C m k keep .skip st Q:=⟨0,.normal,st,by simp only[exec],h⟩
theorem zEk(h:Q .ret st):W C m k keep .ret st Q:=⟨0,.ret,st,by simp only[exec],h⟩
theorem zCt{id:Nat}(h:Q (.exit id) st):W C m k keep (.exit id) st Q:=⟨0,.exit id,st,by simp only[exec],h⟩
theorem zBu{l:Nat}(h:Q .normal st):W C m k keep (.label l) st Q:=⟨0,.normal,st,by simp only[exec],h⟩
theorem zKi {id:Nat} {ops:Array Oper} {draw:Bool} {e:Ex} {st':St} (h:region C (Om C) k ops.toList draw st=some (e,st')) (hq:Q e st') :
  W C m k keep (.region id ops draw) st Q:=⟨0,e,st',by simp only[exec];exact h,hq⟩
theorem zCU{a b:Code}(h:W C m k keep a st (zEm C m k keep b Q)):W C m k keep (.seq a b) st Q:=by
 obtain⟨n,e,st',h1,h2⟩:=h;cases e with
 |normal =>
  obtain⟨n',e,st'',h3,h4⟩:=h2;refine⟨max n n',e,st'',?_,h4⟩;simp only[exec];rw[uP (Nat.le_max_left n n') h1];exact uP (Nat.le_max_right n n') h3
 |exit id=>exact⟨n,_,st',by simp only[exec,h1],h2⟩
 |ret=>exact⟨n,_,st',by simp only[exec,h1],h2⟩
 |pan v=>exact⟨n,_,st',by simp only[exec,h1],h2⟩
theorem zGE {c:Operand} {a b:Code} {v:Bool} (h:zM st.T c=.t (.bool v)) (h1:v=true→W C m k keep a st Q) (h2:v=false→W C m k keep b st Q) :
  W C m k keep (.cond c a b) st Q:=by
 cases v with
 |true =>
  obtain⟨n,e,st',h3,h4⟩:=h1 rfl;exact⟨n,e,st',by simp only[exec,h,h3],h4⟩
 |false =>
  obtain⟨n,e,st',h3,h4⟩:=h2 rfl;exact⟨n,e,st',by simp only[exec,h,h3],h4⟩
def zCi(id:Nat)(Q:Ex→St→Prop):Ex→St→Prop
 |.exit id',st=>if id'=id then Q .normal st else Q (.exit id') st
 |e,st=>Q e st
theorem zBn{id:Nat}{b:Code}(h:W C m k keep b st (zCi id Q)):W C m k keep (.block id b) st Q:=by
 obtain⟨n,e,st',h1,h2⟩:=h;cases e with
 |exit id' =>
  simp only[zCi] at h2
  by_cases hi:id'=id
  ·rw[if_pos hi] at h2;exact⟨n,.normal,st',by simp only[exec,h1,hi,if_true],h2⟩
  rw[if_neg hi] at h2;exact⟨n,.exit id',st',by simp only[exec,h1,hi,if_false],h2⟩
 |normal=>exact⟨n,.normal,st',by simp only[exec,h1],h2⟩
 |ret=>exact⟨n,.ret,st',by simp only[exec,h1],h2⟩
 |pan v=>exact⟨n,.pan v,st',by simp only[exec,h1],h2⟩
theorem zBq{b:Code}(h:W C m k keep b st Q):W C m k keep (.scope b) st Q:=by
 obtain⟨n,e,st',h1,h2⟩:=h;exact⟨n,e,st',by simp only[exec,h1],h2⟩
def round(m k:Nat)(ks:Option (List Nat))(Inv:Nat→St→Prop)(d:Nat)(Q:Ex→St→Prop):Ex→St→Prop
 |.normal,st=>∃d',d'<d∧∃st',tidy m k ks st=some st'∧Inv d' st'
 |e,st=>Q e st
theorem yFC {b:Code} (Inv:Nat→St→Prop) (d:Nat) {st1:St} (h0:tidy m k (xN keep b) st=some st1) (h1:Inv d st1)
  (step:∀d st1,Inv d st1→W C m k keep b st1 (round m k (xN keep b) Inv d Q)):W C m k keep (.loop b) st Q:=by
 have key:∀d st st1,tidy m k (xN keep b) st=some st1→Inv d st1 →
   ∃n e st',iter (tidy m k (xN keep b)) (exec C (Om C) n m k keep b) n st=some (e,st')∧Q e st':=by
  intro d
  induction d using Nat.strongRecOn with
  |_ d ih =>
   intro st st1 h0 h1;obtain⟨n,e,st2,h2,h3⟩:=step d st1 h1;cases e with
   |normal =>
    obtain⟨d',hd,st3,h4,h5⟩:=h3;obtain⟨n',e',st4,h6,h7⟩:=ih d' hd st2 st3 h4 h5;refine⟨max n n'+1,e',st4,?_,h7⟩;unfold iter;rw[h0];dsimp only;rw[uP (by omega) h2];dsimp only;obtain⟨L,s1,s2⟩:=zG8 (body:=fun ρ n st=>exec C ρ n m k keep b st) (gc:=tidy m k (xN keep b)) (fun st=>uO C m k keep b st) n' st2 (Om C) n' _ h6;exact s2 (Om C) (max n n'+1) (max n n') (by omega) (by omega) s1
   |exit id =>
    refine⟨n+1,_,st2,?_,h3⟩;unfold iter;rw[h0];dsimp only;rw[uP (by omega) h2]
   |ret =>
    refine⟨n+1,_,st2,?_,h3⟩;unfold iter;rw[h0];dsimp only;rw[uP (by omega) h2]
   |pan v =>
    refine⟨n+1,_,st2,?_,h3⟩;unfold iter;rw[h0];dsimp only;rw[uP (by omega) h2]
 obtain⟨n,e,st',h2,h3⟩:=key d st st1 h0 h1;refine⟨n,e,st',?_,h3⟩;simp only[exec];exact h2
def ends(C:Cfg)(f:FuncId)(fn:Func)(m:Nat)(R:Out→Heap→Prop):Ex→St→Prop
 |.normal,st=>yI fn.ntmps st.T=some []∧∃v,results C.P fn st=some v∧∃v' h',yU C f m v st.h=some (v',h')∧R (.val v') h'
 |.ret,st=>yI fn.ntmps st.T=some []∧∃v,results C.P fn st=some v∧∃v' h',yU C f m v st.h=some (v',h')∧R (.val v') h'
 |.pan v,st=>yI fn.ntmps st.T=some []∧∃v' h',yU C f m v st.h=some (v',h')∧R (.pan v') h'
 |_,_=>False
def zLe(C:Cfg)(f:FuncId)(fn:Func)(m:Nat)(R:Out→Heap→Prop):Ex→St→Prop
 |.normal,st=>∃ds,yI fn.ntmps st.T=some ds∧∃o h',leave C (Om C) f fn m ds none st.T st.h=some (o,h')∧R o h'
 |.ret,st=>∃ds,yI fn.ntmps st.T=some ds∧∃o h',leave C (Om C) f fn m ds none st.T st.h=some (o,h')∧R o h'
 |.pan v,st=>∃x,v=.t x∧∃ds,yI fn.ntmps st.T=some ds∧∃o h',leave C (Om C) f fn m ds (some (x,false)) st.T st.h=some (o,h')∧R o h'
 |_,_=>False
theorem zHr {C:Cfg} {ρ:Oracle} {n:Nat} {f:FuncId} {fn:Func} {c:Code} {args:List AV} {h:Heap} (hf:nth C.P.funcs.toList f=some fn) (hb:fn.body=some c) (hn:Nat.ble args.length fn.ntmps=true) :
  zDp C ρ n f args h=zCG C ρ n f fn c args h:=by
 unfold zDp;simp only[hf,hb,hn]
theorem xU {f:FuncId} {fn:Func} {c:Code} {args:List AV} {h:Heap} {R:Out→Heap→Prop} (hf:nth C.P.funcs.toList f=some fn) (hb:fn.body=some c)
  (hw:W C h.length fn.ntmps (C.keep f) c ⟨zV 0 args,h⟩ (ends C f fn h.length R)) (hn:Nat.ble args.length fn.ntmps=true):∃o h',Om C f args h=some (o,h')∧R o h':=by
 obtain⟨n,e,st',h1,h2⟩:=hw;cases e with
 |normal =>
  obtain⟨h0,v,h3,v',h',h4,h5⟩:=h2;exact⟨_,_,zDP (n:=n) (by rw[zHr hf hb hn];unfold zCG;simp only[h1,h0,h3,h4]),h5⟩
 |ret =>
  obtain⟨h0,v,h3,v',h',h4,h5⟩:=h2;exact⟨_,_,zDP (n:=n) (by rw[zHr hf hb hn];unfold zCG;simp only[h1,h0,h3,h4]),h5⟩
 |pan v =>
  obtain⟨h0,v',h',h4,h5⟩:=h2;exact⟨_,_,zDP (n:=n) (by rw[zHr hf hb hn];unfold zCG;simp only[h1,h0,h4]),h5⟩
 |exit id=>exact h2.elim
theorem zHk {f:FuncId} {fn:Func} {c:Code} {args:List AV} {h:Heap} {R:Out→Heap→Prop} (hf:nth C.P.funcs.toList f=some fn) (hb:fn.body=some c)
  (hw:W C h.length fn.ntmps (C.keep f) c ⟨zV 0 args,h⟩ (zLe C f fn h.length R)) (hn:Nat.ble args.length fn.ntmps=true):∃o h',Om C f args h=some (o,h')∧R o h':=by
 obtain⟨n,e,st',h1,h2⟩:=hw;have key:∀(o:Out) (h':Heap),zCG C (Om C) n f fn c args h=some (o,h')→Om C f args h=some (o,h'):=fun o h' hx=>zDP (n:=n) (by rw[zHr hf hb hn];exact hx)
 cases e with
 |normal =>
  obtain⟨ds,h0,o,h',h3,h4⟩:=h2;refine⟨o,h',key _ _ ?_,h4⟩;unfold zCG;simp only[h1,h0];cases ds with
  |nil=>rw[leave] at h3;exact h3
  |cons d ds=>exact h3
 |ret =>
  obtain⟨ds,h0,o,h',h3,h4⟩:=h2;refine⟨o,h',key _ _ ?_,h4⟩;unfold zCG;simp only[h1,h0];cases ds with
  |nil=>rw[leave] at h3;exact h3
  |cons d ds=>exact h3
 |pan v =>
  obtain⟨x,rfl,ds,h0,o,h',h3,h4⟩:=h2;refine⟨o,h',key _ _ ?_,h4⟩;unfold zCG;simp only[h1,h0];cases ds with
  |nil=>rw[leave] at h3;exact h3
  |cons d ds=>exact h3
 |exit id=>exact h2.elim
end
end Go.Ab
