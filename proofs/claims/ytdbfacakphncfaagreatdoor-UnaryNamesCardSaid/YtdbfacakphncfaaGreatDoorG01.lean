/- Lemmas. -/
import Derived.Test.YtdbfacakphncfaaGreatDoorG00
import Derived.RecoverIn
import Derived.OrdersIn
import Derived.RangeFuncRecord
import Derived.Scope
import Derived.Orders
set_option maxRecDepth 1000000
set_option maxHeartbeats 40000000
set_option linter.all false
namespace Go.Ab
def Base(w0:World)(γ:G)(w:World):Prop:=w0.heap.size≤w.heap.size∧∀b,b<w0.heap.size→w.heap[b]?=w0.heap[b]?∧∀id,γ.β id≠some b
theorem Base.mono{w0:World}{γ γ':G}{w w':World}(h:Base w0 γ w)(f:Fr γ w γ' w'):Base w0 γ' w':=by
 refine⟨Nat.le_trans h.1 f.size,fun b hb=>⟨?_,fun id hid=>?_⟩⟩
 ·rw[f.keep b (by have:=h.1;omega) (h.2 b hb).2];exact(h.2 b hb).1
 rcases f.rng id b hid with h1|⟨i,h1⟩
 ·have:=h.1;omega
 exact(h.2 b hb).2 i h1
structure Keep (m:Nat) (γ:G) (g:Look) (γ':G) (g':Look):Prop where
 box:∀id b,id<m→γ.β id=some b→cur g id=none→γ'.β id=some b∧cur g' id=none
 arr:∀id,id<m→cur g id≠none→cur g' id≠none
theorem Ext.keep{γ γ':G}{g g':Look}(e:Ext γ g γ' g')(m:Nat):Keep m γ g γ' g':=by
 refine⟨fun id b _ hb hc=>e.box id b hb hc,fun id _ hc=>?_⟩;cases h:cur g id with
 |none=>exact absurd h hc
 |some c=>obtain⟨c',h1,_⟩:=e.arr id c h;rw[h1];simp
theorem Keep.trans{m:Nat}{γ₁ γ₂ γ₃:G}{g₁ g₂ g₃:Look}(h:Keep m γ₁ g₁ γ₂ g₂)(h':Keep m γ₂ g₂ γ₃ g₃):Keep m γ₁ g₁ γ₃ g₃:=by
 refine⟨fun id b hm hb hc=>?_,fun id hm hc=>h'.arr id hm (h.arr id hm hc)⟩;obtain⟨h1,h2⟩:=h.box id b hm hb hc;exact h'.box id b hm h1 h2
def Ends(γ:G)(g:Look):Out→Ending→Prop
 |.val v,.returned u=>VR γ g v u
 |.pan v,.panicked chain=>∃u,chain=[{ v:=u,recovered:=false }]∧VR γ g v u
 |_,_=>False
abbrev Wd (r:Option Nat):Fence:={ Fence.wide with round:=r }
def zHj{r:Option Nat}{n:Nat}{P:Program}{f:FuncId}{args:Array Value}{w:World}{R:Ending→World→Prop}:CallsIn (Wd r) n P f args w R↔Calls P f args w R :=
 callsIn_wide (n:=n)
def zE1:Value→FrameMode
 |.pointer none=>.returning
 |.agg a=>match a.toList with
  |[x,.bool b]=>.panicking [{ v:=x,recovered:=b }]
  |_=>.run
 |_=>.run
def CK(P:Program)(f:FuncId)(vs:List Value)(w:World)(R:Ending→World→Prop):Prop :=
 if f<P.funcs.size then Calls P f vs.toArray w R
 else if f=vL then ∃l us fn tmps asg body,vs=.func (.yield l) #[] #[]::us∧(Instr.yield l us.toArray).run P w=.ok (.round l fn tmps asg body) w∧∀r,RoundIn (Wd r) 0 P l fn tmps asg body w R
 else ∃u us,vs=u::us∧CallsDIn (Wd none) 0 P (f - xG) us.toArray (zE1 u) w fun e m w'=>∃x,e=.returned x∧∃v,settle m=zE1 v∧R (.returned v) w'
theorem CK.mono{P:Program}{f:FuncId}{vs:List Value}{w:World}{R R':Ending→World→Prop}(h:CK P f vs w R)(hr:∀e w',R e w'→R' e w'):CK P f vs w R':=by
 unfold CK at *;split
 ·rename_i h1;rw[if_pos h1] at h;exact h.mono hr
 rename_i h1;rw[if_neg h1] at h;split
 ·rename_i h2;rw[if_pos h2] at h;obtain⟨l,us,fn,tmps,asg,body,a1,a2,a3⟩:=h;exact⟨l,us,fn,tmps,asg,body,a1,a2,fun r=>(a3 r).mono hr⟩
 rename_i h2;rw[if_neg h2] at h;obtain⟨u,us,a1,a2⟩:=h;exact⟨u,us,a1,a2.mono fun e m w' ⟨x,h1,v,h2,h3⟩=>⟨x,h1,v,h2,hr _ _ h3⟩⟩
theorem CK.calls{P:Program}{f:FuncId}{vs:List Value}{w:World}{R:Ending→World→Prop}(h:CK P f vs w R)(hf:f<P.funcs.size):Calls P f vs.toArray w R:=by
 unfold CK at h;rwa [if_pos hf] at h
def zOG(P:Program)(w0:World)(f:FuncId)(args:List AV)(h:Heap)(hI:Out)(h':Heap):Prop :=
 ∀(γ:G) (w:World) (vs:List Value),HR γ (nth h) w→Base w0 γ w→VRs γ (nth h) args vs →
  CK P f vs w fun e w'=>∃ γ',HR γ' (nth h') w'∧Fr γ w γ' w'∧uU γ.imm γ'.imm∧Keep h.length γ (nth h) γ' (nth h')∧Ends γ' (nth h') hI e
def xX(P:Program)(w0:World)(ρ:Oracle):Prop:=∀f args h hI h',ρ f args h=some (hI,h')→zOG P w0 f args h hI h'
def zBo{n:Nat}:∀ {l:List Nat},mem n l=true→l[place n l]?=some n
 |[],h=>by simp [mem] at h
 |a::l,h=>by
  unfold mem at h;unfold place;split at h
  ·rename_i hb;have:=Nat.eq_of_beq_eq_true hb;subst this;simp
  rename_i hb;simp [zBo h]
def zDU{n:Nat}:∀ {l:List Nat},mem n l=true↔n ∈ l
 |[]=>by simp [mem]
 |a::l=>by
  unfold mem;cases hb:Nat.beq a n with
  |true=>have:=Nat.eq_of_beq_eq_true hb;subst this;simp
  |false =>
   have:=Nat.ne_of_beq_eq_false hb;simp [zDU (l:=l),Ne.symm this]
def zD1{g:Look}:∀(n:Nat) (todo acc r:List Nat),reach g n todo acc=some r→acc.Nodup→r.Nodup
 |0,_,_,_,h,_=>by simp [reach] at h
 |_+1,[],acc,r,h,hn=>by simp [reach] at h;subst h;exact hn
 |n+1,id::todo,acc,r,h,hn=>by
  unfold reach at h;split at h
  ·exact zD1 n _ _ _ h hn
  rename_i hm;split at h
  ·refine zD1 n _ _ _ h ?_;rw[List.nodup_append];refine⟨hn,by simp,fun a ha b hb=>?_⟩;simp at hb;subst hb;intro e;subst e;have:=zDU.2 ha;rw[this] at hm;cases hm
  cases h
def zCI{g:Look}{ids:List Nat}:∀ {l:List Nat} {h:Heap},sub1 g ids l=some h→h.length=l.length∧∀(k id:Nat),l[k]?=some id→∃o,g id=some o∧h[k]?=some (renO g ids o)
 |[],h,hs=>by simp [sub1] at hs;subst hs;exact⟨rfl,fun k id hk=>by simp at hk⟩
 |i::l,h,hs=>by
  unfold sub1 at hs;split at hs
  ·cases hs
  rename_i o ho;split at hs
  ·cases hs
  rename_i os qc;cases hs;obtain⟨h1,h2⟩:=zCI qc;refine⟨by simp [h1],fun k id hk=>?_⟩;cases k with
  |zero=>simp at hk;subst hk;exact⟨o,ho,rfl⟩
  |succ k=>simpa using h2 k id (by simpa using hk)
def G.sub(γ:G)(ids:List Nat):G :=
 {β:=fun k=>match ids[k]? with
   |some id=>γ.β id
   |none=>none
  sz:=fun k=>γ.sz (ids.getD k 0)
  imm:=γ.imm }
def zAd {g g':Look} {ids:List Nat} {o:Obj} {id k:Nat} (h:g id=some o) (h':g' k=some (renO g ids o)) :
  (cur g id=none→cur g' k=none)∧(∀c,cur g id=some c→cur g' k=some 0)∧(cur g id≠none→dims g' k=dims g id)∧(cur g' k≠none→cur g id≠none):=by
 unfold cur dims;rw[h,h'];cases o<;>simp [renO]
def zCh{γ:G}{g:Look}{ids:List Nat}{h:Heap}(hs:Ab.sub g ids=some h):∀(d:Nat) {x:AV} {u:Value},VR γ g x u→VR (γ.sub ids) (nth h) (ren g ids d x) u
 |0,_,u,_=>.unk u
 |d+1,x,u,hv=>by
  obtain⟨ka,hZ⟩:=zCI hs;have look:∀ {id:Nat},mem id ids=true→∃o,g id=some o∧nth h (place id ids)=some (renO g ids o)∧ids[place id ids]?=some id:=fun {id} hm=>by
   have hp:=zBo hm;obtain⟨o,h1,h2⟩:=hZ _ _ hp;exact⟨o,h1,by rw[yP];exact h2,hp⟩
  have hβ:∀ {id:Nat},ids[place id ids]?=some id→(γ.sub ids).β (place id ids)=γ.β id:=fun {id} hp=>by simp only[G.sub,hp]
  have mg:∀ {id:Nat},ids[place id ids]?=some id→(γ.sub ids).sz (place id ids)=γ.sz id:=fun {id} hp=>by simp only[G.sub,List.getD,hp,Option.getD_some]
  cases hv with
  |t x v hh=>exact .t x u hh
  |nov=>exact .nov
  |unk v=>exact .unk _
  |box id off b hb hc =>
   cases hm:mem id ids with
   |false=>simp only[ren,hm,cond_false];exact .unk _
   |true =>
    simp only[ren,hm,cond_true];obtain⟨o,h1,h2,h3⟩:=look hm;exact .box _ off b (by rw[hβ h3];exact hb) ((zAd h1 h2).1 hc)
  |el id ver i off a ho hh =>
   cases hm:(fresh g id ver&&mem id ids) with
   |false=>simp only[ren,hm,cond_false];exact .unk _
   |true =>
    simp only[ren,hm,cond_true];simp only[Bool.and_eq_true] at hm;obtain⟨hf,hm⟩:=hm;have kr:=zCG.1 hf;obtain⟨o,h1,h2,h3⟩:=look hm;obtain⟨_,c2,c3,_⟩:=zAd h1 h2;have mQ:=c2 _ kr;refine .el _ 0 i off a ⟨0,mQ,Nat.le_refl _⟩ fun _=>?_
    obtain⟨b,s,n,a1,a2,a3⟩:=hh kr;exact⟨b,s,n,by rw[hβ h3];exact a1,by rw[c3 (by rw[kr];simp)];exact a2,a3⟩
  |rp cs b o val h1 h2=>exact .rp cs b o val h1 h2
  |hs id ver a n cap ho hh =>
   cases hm:(fresh g id ver&&mem id ids) with
   |false=>simp only[ren,hm,cond_false];exact .unk _
   |true =>
    simp only[ren,hm,cond_true];simp only[Bool.and_eq_true] at hm;obtain⟨hf,hm⟩:=hm;have kr:=zCG.1 hf;obtain⟨o,h1,h2,h3⟩:=look hm;obtain⟨_,c2,c3,_⟩:=zAd h1 h2;have mQ:=c2 _ kr;refine .hs _ 0 a n cap ⟨0,mQ,Nat.le_refl _⟩ fun _=>?_
    obtain⟨b,s,a1,a2,a3,a4,a5⟩:=hh kr;exact⟨b,s,by rw[hβ h3];exact a1,by rw[c3 (by rw[kr];simp)];exact a2,a3,a4,by rw[mg h3];exact a5⟩
  |hsub id ver lo len a cap ho hh =>
   cases hm:(fresh g id ver&&mem id ids) with
   |false=>simp only[ren,hm,cond_false];exact .unk _
   |true =>
    simp only[ren,hm,cond_true];simp only[Bool.and_eq_true] at hm;obtain⟨hf,hm⟩:=hm;have kr:=zCG.1 hf;obtain⟨o,h1,h2,h3⟩:=look hm;obtain⟨_,c2,c3,_⟩:=zAd h1 h2;have mQ:=c2 _ kr;refine .hsub _ 0 lo len a cap ⟨0,mQ,Nat.le_refl _⟩ fun _=>?_
    obtain⟨b,s,n,a1,a2,a3,a4,a5⟩:=hh kr;exact⟨b,s,n,by rw[hβ h3];exact a1,by rw[c3 (by rw[kr];simp)];exact a2,a3,a4,a5⟩
  |agg cs vs hl hh =>
   refine .agg (cs.map (ren g ids d)) vs (by simpa using hl) fun i c v hc hv=>?_
   rw[List.getElem?_map] at hc;cases kb:cs[i]? with
   |none=>rw[kb] at hc;cases hc
   |some c0=>rw[kb] at hc;cases hc;exact zCh hs d (hh i c0 v kb hv)
  |fn f as bs us vs hl mI hh ni =>
   refine .fn f (as.map (ren g ids d)) (bs.map (ren g ids d)) us vs (by simpa using hl) (by simpa using mI) (fun i c v hc hv=>?_) (fun i c v hc hv=>?_)
   ·rw[List.getElem?_map] at hc;cases kb:as[i]? with
    |none=>rw[kb] at hc;cases hc
    |some c0=>rw[kb] at hc;cases hc;exact zCh hs d (hh i c0 v kb hv)
   rw[List.getElem?_map] at hc;cases kb:bs[i]? with
   |none=>rw[kb] at hc;cases hc
   |some c0=>rw[kb] at hc;cases hc;exact zCh hs d (ni i c0 v kb hv)
  |tup cs vs hl hh =>
   refine .tup (cs.map (ren g ids d)) vs (by simpa using hl) fun i c v hc hv=>?_
   rw[List.getElem?_map] at hc;cases kb:cs[i]? with
   |none=>rw[kb] at hc;cases hc
   |some c0=>rw[kb] at hc;cases hc;exact zCh hs d (hh i c0 v kb hv)
  |mp id b hb hc =>
   cases hm:mem id ids with
   |false=>simp only[ren,hm,cond_false];exact .unk _
   |true =>
    simp only[ren,hm,cond_true];obtain⟨o,h1,h2,h3⟩:=look hm;exact .mp _ b (by rw[hβ h3];exact hb) ((zAd h1 h2).1 hc)
  |yld id b hb hc =>
   cases hm:mem id ids with
   |false=>simp only[ren,hm,cond_false];exact .unk _
   |true =>
    simp only[ren,hm,cond_true];obtain⟨o,h1,h2,h3⟩:=look hm;exact .yld _ b (by rw[hβ h3];exact hb) ((zAd h1 h2).1 hc)
  |dfr ds v=>exact .dfr _ _
  |rnd v=>exact .rnd _
  |ifv t x v h=>exact .ifv t _ v (zCh hs d h)
  |ifx t v=>exact .ifx t v
theorem VRs.map{γ γ':G}{g g':Look}{f:AV→AV}(hf:∀x u,VR γ g x u→VR γ' g' (f x) u){xs:List AV}{vs:List Value}(h:VRs γ g xs vs):VRs γ' g' (xs.map f) vs:=by
 refine⟨by simpa using h.1,fun i x v hx hv=>?_⟩;rw[List.getElem?_map] at hx;cases hi:xs[i]? with
 |none=>rw[hi] at hx;cases hx
 |some y=>rw[hi] at hx;cases hx;exact hf _ _ (h.2 i y v hi hv)
def zPP{γ:G}{g:Look}{ids:List Nat}{h:Heap}(hs:Ab.sub g ids=some h){xs:List AV}{vs:List Value}(hv:VRs γ g xs vs):VRs (γ.sub ids) (nth h) (renL g ids xs) vs :=
 hv.map fun _ _ hx=>zCh hs depth hx
def zZo {γ:G} {g:Look} {w:World} {ids:List Nat} {h:Heap} (hs:Ab.sub g ids=some h) {id k b:Nat} {o:Obj} (hk:ids[k]?=some id) (ho:OR γ g w id b o) :
  OR (γ.sub ids) (nth h) w k b (renO g ids o):=by
 have mg:(γ.sub ids).sz k=γ.sz id:=by simp only[G.sub,List.getD,hk,Option.getD_some]
 cases o with
 |box cs =>
  obtain⟨⟨c,ty,fr,h1,h2,h3⟩,h4⟩:=ho;exact⟨⟨c,ty,fr,h1,h2,zPP hs h3⟩,h4⟩
 |arr s ver frz es =>
  obtain⟨⟨c,ty,fr,h1,h2,h3,h4,h5,h6,h7⟩,h8⟩:=ho;exact⟨⟨c,ty,fr,h1,h2,h3.trans mg.symm,h4,h5,h6,h7⟩,h8⟩
 |marr s ver es =>
  obtain⟨⟨c,ty,fr,h1,h2,h3,h4,h5,h6⟩,h8⟩:=ho;refine⟨⟨c,ty,fr,h1,h2,h3.trans mg.symm,by simpa using h4,fun e he=>?_,fun i j e t v he ht hv=>?_⟩,h8⟩
  ·obtain⟨e0,qd,rfl⟩:=List.mem_map.1 he;simp [renL,h5 e0 qd]
  rw[List.getElem?_map] at he;cases hi:es[i]? with
  |none=>rw[hi] at he;cases he
  |some e0 =>
   rw[hi] at he;cases he;unfold renL at ht;rw[List.getElem?_map] at ht;cases hj:e0[j]? with
   |none=>rw[hj] at ht;cases ht
   |some t0=>rw[hj] at ht;cases ht;exact zCh hs depth (h6 i j e0 t0 v hi hj hv)
 |siter s pos=>exact ho
 |map es =>
  obtain⟨⟨xs,c,h1,h2,h3⟩,h4⟩:=ho;refine⟨⟨xs,c,h1,by simpa using h2,fun i e x he hx=>?_⟩,h4⟩;rw[List.getElem?_map] at he;cases hi:es[i]? with
  |none=>rw[hi] at he;cases he
  |some e0=>rw[hi] at he;cases he;exact ERel.of (γ:=γ) (g:=g) (γ':=γ.sub ids) (g':=nth h) rfl (fun _ _ hv=>zCh hs depth hv) (h3 i e0 x hi hx)
 |loop c T st j =>
  obtain⟨⟨r,h1,h2⟩,h4⟩:=ho;exact⟨⟨r,h1,LR.of (γ:=γ) (g:=g) rfl (fun _ _ hv=>zCh hs depth hv) h2⟩,h4⟩
 |dead=>exact ho
def zUM{γ:G}{g:Look}{w:World}{ids:List Nat}{h:Heap}(hr:HR γ g w)(hs:Ab.sub g ids=some h)(hn:ids.Nodup):HR (γ.sub ids) (nth h) w:=by
 obtain⟨ka,hZ⟩:=zCI hs;refine⟨fun k b hb=>?_,fun k k' b hb mH=>?_,hr.imm⟩
 ·cases hk:ids[k]? with
  |none=>simp only[G.sub,hk] at hb;cases hb
  |some id =>
   simp only[G.sub,hk] at hb;obtain⟨o,ho,ki⟩:=hr.obj id b hb;obtain⟨o',mC,hh⟩:=hZ k id hk;rw[ho] at mC;cases mC;exact⟨renO g ids o,by rw[yP];exact hh,zZo hs hk ki⟩
 cases hk:ids[k]? with
 |none=>simp only[G.sub,hk] at hb;cases hb
 |some id =>
  cases mt:ids[k']? with
  |none=>simp only[G.sub,mt] at mH;cases mH
  |some id' =>
   simp only[G.sub,hk] at hb;simp only[G.sub,mt] at mH;have:=hr.inj id id' b hb mH;subst this;have h1:=zQ hk;have h2:=zQ mt;rw[List.getElem?_eq_getElem h1] at hk;rw[List.getElem?_eq_getElem h2] at mt;exact(List.getElem_inj hn).1 (by rw[Option.some.inj hk,Option.some.inj mt])
structure Back (y:Way) (γ:G) (γ':G) (g':Look):Prop where
 β:∀k b,γ.β k=some b→γ'.β (y.id k)=some b
 none:∀k,cur y.g k=none→(∃b,γ.β k=some b)→cur g' (y.id k)=none
 cur:∀k c,cur y.g k=some c→cur g' (y.id k)=some (y.ver k)
 dims:∀k c,Ab.cur y.g k=some c→dims g' (y.id k)=Ab.dims y.g k∧γ'.sz (y.id k)=γ.sz k
 imm:γ'.imm=γ.imm
def zBc{y:Way}{γ γ':G}{g':Look}(hb:Back y γ γ' g'):∀(d:Nat) {x:AV} {u:Value},VR γ y.g x u→VR γ' g' (back y d x) u
 |0,_,u,_=>.unk u
 |d+1,x,u,hv=>by
  cases hv with
  |t x v hh=>exact .t x u (by rw[hb.imm];exact hh)
  |nov=>exact .nov
  |unk v=>exact .unk _
  |box k off b hk hc=>exact .box _ off b (hb.β k b hk) (hb.none k hc ⟨b,hk⟩)
  |el k ver i off a ho hh =>
   cases hm:fresh y.g k ver with
   |false=>simp only[back,hm,cond_false];exact .unk _
   |true =>
    simp only[back,hm,cond_true];have kr:=zCG.1 hm;have hc:=hb.cur k ver kr;refine .el _ _ i off a ⟨_,hc,Nat.le_refl _⟩ fun _=>?_
    obtain⟨b,s,n,a1,a2,a3⟩:=hh kr;exact⟨b,s,n,hb.β k b a1,by rw[(hb.dims k ver kr).1];exact a2,a3⟩
  |rp cs b o val h1 h2=>exact .rp cs b o val (by rw[hb.imm];exact h1) (by rw[hb.imm];exact h2)
  |hs k ver a n cap ho hh =>
   cases hm:fresh y.g k ver with
   |false=>simp only[back,hm,cond_false];exact .unk _
   |true =>
    simp only[back,hm,cond_true];have kr:=zCG.1 hm;have hc:=hb.cur k ver kr;refine .hs _ _ a n cap ⟨_,hc,Nat.le_refl _⟩ fun _=>?_
    obtain⟨b,s,a1,a2,a3,a4,a5⟩:=hh kr;exact⟨b,s,hb.β k b a1,by rw[(hb.dims k ver kr).1];exact a2,a3,a4,by rw[(hb.dims k ver kr).2];exact a5⟩
  |hsub k ver lo len a cap ho hh =>
   cases hm:fresh y.g k ver with
   |false=>simp only[back,hm,cond_false];exact .unk _
   |true =>
    simp only[back,hm,cond_true];have kr:=zCG.1 hm;have hc:=hb.cur k ver kr;refine .hsub _ _ lo len a cap ⟨_,hc,Nat.le_refl _⟩ fun _=>?_
    obtain⟨b,s,n,a1,a2,a3,a4,a5⟩:=hh kr;exact⟨b,s,n,hb.β k b a1,by rw[(hb.dims k ver kr).1];exact a2,a3,a4,a5⟩
  |agg cs vs hl hh =>
   refine .agg (cs.map (back y d)) vs (by simpa using hl) fun i c v hc hv=>?_
   rw[List.getElem?_map] at hc;cases kb:cs[i]? with
   |none=>rw[kb] at hc;cases hc
   |some c0=>rw[kb] at hc;cases hc;exact zBc hb d (hh i c0 v kb hv)
  |fn f as bs us vs hl mI hh ni =>
   refine .fn f (as.map (back y d)) (bs.map (back y d)) us vs (by simpa using hl) (by simpa using mI) (fun i c v hc hv=>?_) (fun i c v hc hv=>?_)
   ·rw[List.getElem?_map] at hc;cases kb:as[i]? with
    |none=>rw[kb] at hc;cases hc
    |some c0=>rw[kb] at hc;cases hc;exact zBc hb d (hh i c0 v kb hv)
   rw[List.getElem?_map] at hc;cases kb:bs[i]? with
   |none=>rw[kb] at hc;cases hc
   |some c0=>rw[kb] at hc;cases hc;exact zBc hb d (ni i c0 v kb hv)
  |tup cs vs hl hh =>
   refine .tup (cs.map (back y d)) vs (by simpa using hl) fun i c v hc hv=>?_
   rw[List.getElem?_map] at hc;cases kb:cs[i]? with
   |none=>rw[kb] at hc;cases hc
   |some c0=>rw[kb] at hc;cases hc;exact zBc hb d (hh i c0 v kb hv)
  |mp k b hk hc=>exact .mp _ b (hb.β k b hk) (hb.none k hc ⟨b,hk⟩)
  |yld k b hk hc=>exact .yld _ b (hb.β k b hk) (hb.none k hc ⟨b,hk⟩)
  |dfr ds v=>exact .dfr _ _
  |rnd v=>exact .rnd _
  |ifv t x v h=>exact .ifv t _ v (zBc hb d h)
  |ifx t v=>exact .ifx t v
def zWF {y:Way} {γ γ':G} {g':Look} {w:World} (hb:Back y γ γ' g') {k b:Nat} {o:Obj} (hk:y.g k=some o) (ho:OR γ y.g w k b o) :
  OR γ' g' w (y.id k) b (zB4 y (y.ver k) o):=by
 cases o with
 |box cs =>
  obtain⟨⟨c,ty,fr,h1,h2,h3⟩,h4⟩:=ho;exact⟨⟨c,ty,fr,h1,h2,h3.map fun _ _ hx=>zBc hb depth hx⟩,by rw[hb.imm];exact h4⟩
 |arr s ver frz es =>
  obtain⟨⟨c,ty,fr,h1,h2,h3,h4,h5,h6,h7⟩,h8⟩:=ho;have mg:=(hb.dims k ver (qW hk)).2;exact⟨⟨c,ty,fr,h1,h2,h3.trans mg.symm,h4,h5,by rw[hb.imm];exact h6,by rw[hb.imm];exact h7⟩,by rw[hb.imm];exact h8⟩
 |marr s ver es =>
  obtain⟨⟨c,ty,fr,h1,h2,h3,h4,h5,h6⟩,h8⟩:=ho;have mg:=(hb.dims k ver (by unfold cur;rw[hk])).2;refine⟨⟨c,ty,fr,h1,h2,h3.trans mg.symm,by simpa using h4,fun e he=>?_,fun i j e t v he ht hv=>?_⟩,by rw[hb.imm];exact h8⟩
  ·obtain⟨e0,qd,rfl⟩:=List.mem_map.1 he;simp [zC3,h5 e0 qd]
  rw[List.getElem?_map] at he;cases hi:es[i]? with
  |none=>rw[hi] at he;cases he
  |some e0 =>
   rw[hi] at he;cases he;unfold zC3 at ht;rw[List.getElem?_map] at ht;cases hj:e0[j]? with
   |none=>rw[hj] at ht;cases ht
   |some t0=>rw[hj] at ht;cases ht;exact zBc hb depth (h6 i j e0 t0 v hi hj hv)
 |siter s pos=>exact⟨ho.1,by rw[hb.imm];exact ho.2⟩
 |map es =>
  obtain⟨⟨xs,c,h1,h2,h3⟩,h4⟩:=ho;refine⟨⟨xs,c,h1,by simpa using h2,fun i e x he hx=>?_⟩,by rw[hb.imm];exact h4⟩;rw[List.getElem?_map] at he;cases hi:es[i]? with
  |none=>rw[hi] at he;cases he
  |some e0=>rw[hi] at he;cases he;exact ERel.of (γ:=γ) hb.imm (fun _ _ hv=>zBc hb depth hv) (h3 i e0 x hi hx)
 |loop c T st j =>
  obtain⟨⟨r,h1,h2⟩,h4⟩:=ho;exact⟨⟨r,h1,LR.of (γ:=γ) rfl (fun _ _ hv=>zBc hb depth hv) h2⟩,by rw[hb.imm];exact h4⟩
 |dead=>exact ho
def zCa{y:Way}:∀(k:Nat) (os:List Obj) (i:Nat) (o:Obj),(i,o) ∈ vE y k os↔∃j x,os[j]?=some x∧i=y.id (k+j)∧o=zB4 y (y.ver (k+j)) x
 |k,[],i,o=>by simp [vE]
 |k,x::os,i,o=>by
  simp only[vE,List.mem_cons,Prod.mk.injEq,zCa (k+1) os i o]
  constructor
  ·rintro(⟨rfl,rfl⟩|⟨j,x',h1,h2,h3⟩)
   ·exact⟨0,x,rfl,rfl,rfl⟩
   exact⟨j+1,x',by simpa using h1,by rw[h2];congr 1;omega,by rw[h3];congr 2;omega⟩
  rintro⟨j,x',h1,h2,h3⟩;cases j with
  |zero=>simp at h1;subst h1;exact .inl ⟨h2,h3⟩
  |succ j=>exact .inr ⟨j,x',by simpa using h1,by rw[h2];congr 1;omega,by rw[h3];congr 2;omega⟩
def zLZ{g:Look}:∀ {ids:List Nat} {k id:Nat},ids[k]?=some id→getN (vN g ids) k=zCq (g id)
 |[],k,id,h=>by simp at h
 |i::ids,0,id,h=>by simp at h;subst h;rfl
 |i::ids,k+1,id,h=>by
  have:=zLZ (g:=g) (ids:=ids) (k:=k) (id:=id) (by simpa using h)
  simpa [vN,getN,nth] using this
def zQM{l:List Nat}{k x:Nat}(h:l[k]?=some x):getN l k=x:=by
 unfold getN;rw[yP,h];rfl
def zIv{n k:Nat}:∀ {l:List Nat},l.Nodup→l[k]?=some n→place n l=k∧mem n l=true:=by
 intro l hn hk;have hm:mem n l=true:=zDU.2 (List.mem_of_getElem? hk);have hp:=zBo hm;refine⟨?_,hm⟩;have h1:=zQ hk;have h2:=zQ hp;rw[List.getElem?_eq_getElem h1] at hk;rw[List.getElem?_eq_getElem h2] at hp;exact(List.getElem_inj hn).1 (by rw[Option.some.inj hk,Option.some.inj hp])
def G.back(γ γ':G)(ids:List Nat)(nid:Nat)(fresh:Nat→Bool):G :=
 {β:=fun i=>if fresh i=true then γ'.β (ids.length+(i - nid)) else if mem i ids=true then γ'.β (place i ids) else γ.β i
  sz:=fun i=>if fresh i=true then γ'.sz (ids.length+(i - nid)) else if mem i ids=true then γ'.sz (place i ids) else γ.sz i
  imm:=γ'.imm }
def zIY {y:Way} {g':Look} {k:Nat} {o:Obj} {i ver:Nat} (h:y.g k=some o) (h':g' i=some (zB4 y ver o)) :
  (cur y.g k=none→cur g' i=none)∧(∀c,cur y.g k=some c→cur g' i=some ver)∧(cur y.g k≠none→dims g' i=dims y.g k):=by
 unfold cur dims;rw[h,h'];cases o<;>simp [zB4]
def zXx {γ γ':G} {g:Look} {w w':World} {ids:List Nat} {nid:Nat} {h h':Heap} (hr:HR γ g w) (hn:ids.Nodup) (hs:Ab.sub g ids=some h)
  (mb:HR γ' (nth h') w') (hf:Fr (γ.sub ids) w γ' w') (hi:uU γ.imm γ'.imm) (ky:Keep h.length (γ.sub ids) (nth h) γ' (nth h'))
  (qe:∀j,ids.length+j<h'.length→γ.β (nid+j)=none∧g (nid+j)=none) :
  ∃ γ'',Ext γ g γ'' (upd g (vE ⟨nth h',ids.length,ids,vN g ids,nid⟩ 0 h'))∧HR γ'' (upd g (vE ⟨nth h',ids.length,ids,vN g ids,nid⟩ 0 h')) w'∧Fr γ w γ'' w' ∧
   ∀v u,VR γ' (nth h') v u→VR γ'' (upd g (vE ⟨nth h',ids.length,ids,vN g ids,nid⟩ 0 h')) (back ⟨nth h',ids.length,ids,vN g ids,nid⟩ depth v) u:=by
 obtain⟨hl,hZ⟩:=zCI hs;generalize hy:(⟨nth h',ids.length,ids,vN g ids,nid⟩:Way)=y;have yg:y.g=nth h':=by rw[← hy]
 have ylo:∀k id,ids[k]?=some id→y.id k=id:=fun k id hk=>by
  have:=zQ hk;rw[← hy];unfold Way.id;have hb:Nat.blt k ids.length=true:=by rw[Nat.blt_eq];exact this
  simp only[hb,cond_true];exact zQM hk
 have yhi:∀k,ids.length≤k→y.id k=nid+(k - ids.length):=fun k hk=>by
  rw[← hy];unfold Way.id;have hb:Nat.blt k ids.length=false:=by
   cases hb:Nat.blt k ids.length with
   |false=>rfl
   |true=>rw[Nat.blt_eq] at hb;omega
  simp only[hb,cond_false]
 have yver:∀k id,ids[k]?=some id→y.ver k=zCq (g id):=fun k id hk=>by
  have:=zQ hk;rw[← hy];unfold Way.ver;have hb:Nat.blt k ids.length=true:=by rw[Nat.blt_eq];exact this
  simp only[hb,cond_true];exact zLZ hk
 -- which numbers are new
 let isnew:Nat→Bool:=fun i=>decide (nid≤i∧ids.length+(i - nid)<h'.length)
 have mu:∀i,isnew i=true→γ.β i=none∧g i=none∧mem i ids=false∧y.id (ids.length+(i - nid))=i:=fun i hi=>by
  have hi:=of_decide_eq_true hi;obtain⟨h1,h2⟩:=qe (i - nid) hi.2;have:nid+(i - nid)=i:=by omega
  rw[this] at h1 h2;refine⟨h1,h2,?_,?_⟩
  ·cases hm:mem i ids with
   |false=>rfl
   |true =>
    obtain⟨o,ho,_⟩:=hZ _ _ (zBo hm);rw[ho] at h2;cases h2
  rw[yhi _ (by omega)];omega
 -- every uN of the answer's heap is an old one or a new one
 have mv:∀k o,h'[k]?=some o→(∃id,ids[k]?=some id∧y.id k=id∧isnew id=false∧mem id ids=true∧place id ids=k) ∨
   (ids.length≤k∧isnew (y.id k)=true∧ids.length+(y.id k - nid)=k):=fun k o hk=>by
  have mt:=zQ hk;rcases Nat.lt_or_ge k ids.length with hP|rl
  ·have hid:ids[k]?=some ids[k]:=List.getElem?_eq_getElem hP;refine .inl ⟨ids[k],hid,ylo _ _ hid,?_,(zIv hn hid).2,(zIv hn hid).1⟩;cases hx:isnew ids[k] with
   |false=>rfl
   |true =>
    have:=(mu _ hx).2.2.1;rw[(zIv hn hid).2] at this;cases this
  have he:=yhi k rl;refine .inr ⟨rl,decide_eq_true ?_,?_⟩
  ·rw[he];exact⟨by omega,by
                  have:ids.length+(nid+(k - ids.length) - nid)=k:=by omega
                  rw[this];exact mt⟩
  rw[he];omega
 have yinj:∀k k' o o',h'[k]?=some o→h'[k']?=some o'→y.id k=y.id k'→k=k':=fun k k' o o' hk mt he=>by
  rcases mv k o hk with ⟨id,a1,a2,a3,a4,a5⟩|⟨a1,a2,a3⟩<;>rcases mv k' o' mt with ⟨id',b1,b2,b3,b4,b5⟩|⟨b1,b2,b3⟩
  ·rw[← a5,← b5,← a2,← b2,he]
  ·rw[← he,a2,a3] at b2;cases b2
  ·rw[he,b2,b3] at a2;cases a2
  rw[← a3,← b3,he]
 have look:∀k o,h'[k]?=some o→upd g (vE y 0 h') (y.id k)=some (zB4 y (y.ver k) o):=fun k o hk=>by
  refine zQO (fun o' mC=>?_) (.inr ⟨_,(zCa 0 h' _ _).2 ⟨k,o,hk,by simp,by simp;rfl⟩⟩);obtain⟨j,x,h1,h2,h3⟩:=(zCa 0 h' _ _).1 mC;simp only[Nat.zero_add] at h2 h3;have:=yinj k j o x hk h1 h2;subst this;rw[hk] at h1;cases h1;exact h3
 have other:∀i,isnew i=false→mem i ids=false→upd g (vE y 0 h') i=g i:=fun i h1 h2=>by
  refine zEf fun o ho=>?_
  obtain⟨j,x,a1,a2,a3⟩:=(zCa 0 h' _ _).1 ho;simp only[Nat.zero_add] at a2;rcases mv j x a1 with ⟨id,b1,b2,b3,b4,b5⟩|⟨b1,b2,b3⟩
  ·rw[a2,b2,b4] at h2;cases h2
  rw[a2,b2] at h1;cases h1
 let γ'':=γ.back γ' ids nid isnew
 have βk:∀k o,h'[k]?=some o→γ''.β (y.id k)=γ'.β k∧γ''.sz (y.id k)=γ'.sz k:=fun k o hk=>by
  rcases mv k o hk with ⟨id,b1,b2,b3,b4,b5⟩|⟨b1,b2,b3⟩
  ·simp [γ'',G.back,b2,b3,b4,b5]
  simp [γ'',G.back,b2,b3]
 have kz:∀k b,γ'.β k=some b→∃o,h'[k]?=some o∧OR γ' (nth h') w' k b o:=fun k b hk=>by
  obtain⟨o,h1,h2⟩:=mb.obj k b hk;exact⟨o,by rw[← yP];exact h1,h2⟩
 have m6:∀k c,cur y.g k=some c→∃o,h'[k]?=some o:=fun k c hc=>by
  rw[yg] at hc;unfold cur at hc;cases ho:nth h' k with
  |none=>rw[ho] at hc;cases hc
  |some o=>exact⟨o,by rw[← yP];exact ho⟩
 have hb:Back y γ' γ'' (upd g (vE y 0 h')):=by
  refine⟨fun k b hk=>?_,fun k hc ⟨b,hk⟩=>?_,fun k c hc=>?_,fun k c hc=>?_,rfl⟩
  ·obtain⟨o,ho,_⟩:=kz k b hk;rw[(βk k o ho).1];exact hk
  ·obtain⟨o,ho,_⟩:=kz k b hk;exact(zIY (by rw[yg,yP];exact ho) (look k o ho)).1 hc
  ·obtain⟨o,ho⟩:=m6 k c hc;exact(zIY (by rw[yg,yP];exact ho) (look k o ho)).2.1 c hc
  obtain⟨o,ho⟩:=m6 k c hc;exact⟨(zIY (by rw[yg,yP];exact ho) (look k o ho)).2.2 (by rw[hc];simp),(βk k o ho).2⟩
 have hsubβ:∀ {k id b:Nat},ids[k]?=some id→((γ.sub ids).β k=some b↔γ.β id=some b):=fun {k id b} hk=>by simp only[G.sub,hk]
 have mw:∀k b,(γ.sub ids).β k=some b→∃id,ids[k]?=some id∧γ.β id=some b:=fun k b hk=>by
  cases hid:ids[k]? with
  |none=>simp only[G.sub,hid] at hk;cases hk
  |some id=>exact⟨id,rfl,by simpa only [G.sub,hid] using hk⟩
 -- a block of the caller's own is none of the callee's
 have nj:∀i b,γ.β i=some b→mem i ids=false→∀k,(γ.sub ids).β k≠some b:=fun i b hb hm k hk=>by
  obtain⟨id,h1,h2⟩:=mw k b hk;have:=hr.inj i id b hb h2;subst this;rw[zDU.2 (List.mem_of_getElem? h1)] at hm;cases hm
 have nk:∀i b,γ.β i=some b→mem i ids=false→∀o,γ'.imm b o=γ.imm b o:=fun i b hb hm o=>by
  cases hv:γ.imm b o with
  |some v=>exact hi _ _ _ hv
  |none =>
   cases nD:γ'.imm b o with
   |none=>rfl
   |some v =>
    rcases hf.immr b o v nD with h1|h1|⟨k,h1⟩
    ·have h1:γ.imm b o=some v:=h1;rw[hv] at h1;cases h1
    ·have:=hr.lt hb;omega
    exact absurd h1 (nj i b hb hm k)
 -- the three kinds of numbers
 have kinds:∀i b,γ''.β i=some b→(∃k o,h'[k]?=some o∧y.id k=i∧γ'.β k=some b)∨(γ.β i=some b∧isnew i=false∧mem i ids=false):=fun i b hb=>by
  cases h1:isnew i with
  |true =>
   simp only[γ'',G.back,h1,if_true] at hb;obtain⟨o,ho,_⟩:=kz _ _ hb;exact .inl ⟨_,o,ho,(mu i h1).2.2.2,hb⟩
  |false =>
   cases h2:mem i ids with
   |true =>
    simp only[γ'',G.back,h1,h2,if_true,Bool.false_eq_true,if_false] at hb;obtain⟨o,ho,_⟩:=kz _ _ hb;exact .inl ⟨_,o,ho,ylo _ _ (zBo h2),hb⟩
   |false =>
    simp only[γ'',G.back,h1,h2,Bool.false_eq_true,if_false] at hb;exact .inr ⟨hb,rfl,rfl⟩
 have notnew:∀i,(γ.β i≠none∨g i≠none)→isnew i=false:=fun i hx=>by
  cases h1:isnew i with
  |false=>rfl
  |true =>
       rcases hx with hx|hx
       ·exact absurd (mu i h1).1 hx
       exact absurd (mu i h1).2.1 hx
 have ext:Ext γ g γ'' (upd g (vE y 0 h')):=by
  refine⟨hi,fun i b mc hc=>?_,fun i c hc=>?_⟩
  ·have h1:=notnew i (.inl (by rw[mc];simp));cases h2:mem i ids with
   |false=>exact⟨by simp only[γ'',G.back,h1,h2,Bool.false_eq_true,if_false];exact mc,by unfold cur;rw[other i h1 h2];exact hc⟩
   |true =>
    have hp:=zBo h2;obtain⟨o,ho,hh⟩:=hZ _ _ hp;have hP:=zQ hh;have ni:nth h (place i ids)=some (renO g ids o):=by rw[yP];exact hh
    obtain⟨rn,c1⟩:=ky.box _ b hP ((hsubβ hp).2 mc) ((zAd ho ni).1 hc);have e:=ylo _ _ hp;refine⟨by have:=hb.β _ b rn;rw[e] at this;exact this,?_⟩;have:=hb.none _ (by rw[yg];exact c1) ⟨b,rn⟩;rw[e] at this;exact this
  have rS:g i≠none:=fun e=>by rw[zJN e] at hc;cases hc
  have h1:=notnew i (.inr rS);cases h2:mem i ids with
  |false =>
   have e1:γ''.β i=γ.β i:=by simp only[γ'',G.back,h1,h2,Bool.false_eq_true,if_false]
   have e2:γ''.sz i=γ.sz i:=by simp only[γ'',G.back,h1,h2,Bool.false_eq_true,if_false]
   exact⟨c,by unfold cur;rw[other i h1 h2];exact hc,Nat.le_refl _,fun _=>⟨e1,e2,by unfold dims;rw[other i h1 h2]⟩⟩
  |true =>
   have hp:=zBo h2;obtain⟨o,ho,hh⟩:=hZ _ _ hp;have hP:=zQ hh;have ni:nth h (place i ids)=some (renO g ids o):=by rw[yP];exact hh
   have c0:=(zAd ho ni).2.1 c hc;have c1:=ky.arr _ hP (by rw[c0];simp);have e:=ylo _ _ hp;cases me:cur (nth h') (place i ids) with
   |none=>exact absurd me c1
   |some c' =>
    have:=hb.cur _ c' (by rw[yg];exact me);rw[e,yver _ _ hp] at this;have hv:zCq (g i)=c+1:=by
     unfold cur at hc;unfold zCq;split at hc
     ·rename_i hg;try rw[hg]
      cases hc;rfl
     ·rename_i hg;try rw[hg]
      cases hc;rfl
     cases hc
    rw[hv] at this;exact⟨c+1,this,by omega,fun he=>by omega⟩
 refine⟨γ'',ext,⟨fun i b mc=>?_,fun i i' b mc qf=>?_,mb.imm⟩,⟨hf.size,fun b hP kc=>?_,fun i b mc=>?_,fun b o v hv=>?_,hf.same⟩,fun v u hv=>zBc hb depth (by rw[yg];exact hv)⟩
 ·rcases kinds i b mc with ⟨k,o,h1,h2,h3⟩|⟨h1,h2,h3⟩
  ·obtain⟨o',mC,ki⟩:=kz k b h3;rw[h1] at mC;cases mC;subst h2;exact⟨_,look k o h1,zWF hb (by rw[yg,yP];exact h1) (by rw[yg];exact ki)⟩
  obtain⟨o,ho,ki⟩:=hr.obj i b h1;exact⟨o,by rw[other i h2 h3];exact ho,ki.mono ext (hf.keep b ki.lt (nj i b h1 h3)) (by simp only[γ'',G.back,h2,h3,Bool.false_eq_true,if_false]) (nk i b h1 h3)⟩
 ·have cross:∀i j k,γ.β i=some b→mem i ids=false→γ'.β k=some b→i=j:=fun i j k h1 h3 h4=>by
   rcases hf.rng k b h4 with h5|⟨k',h5⟩
   ·have:=hr.lt h1;omega
   exact absurd h5 (nj i b h1 h3 k')
  rcases kinds i b mc with ⟨k,o,h1,h2,h3⟩|⟨h1,h2,h3⟩<;>rcases kinds i' b qf with ⟨k',o',qg,nC,n2⟩|⟨qg,nC,n2⟩
  ·have:=mb.inj k k' b h3 n2;subst this;rw[← h2,← nC]
  ·exact(cross i' i k qg n2 h3).symm
  ·exact cross i i' k' h1 h3 n2
  exact hr.inj i i' b h1 qg
 ·refine hf.keep b hP fun k hk=>?_
  obtain⟨id,h1,h2⟩:=mw k b hk;exact kc id h2
 ·rcases kinds i b mc with ⟨k,o,h1,h2,h3⟩|⟨h1,h2,h3⟩
  ·rcases hf.rng k b h3 with h4|⟨k',h4⟩
   ·exact .inl h4
   obtain⟨id,_,h6⟩:=mw k' b h4;exact .inr ⟨id,h6⟩
  exact .inr ⟨i,h1⟩
 rcases hf.immr b o v hv with h1|h1|⟨k,h1⟩
 ·exact .inl h1
 ·exact .inr (.inl h1)
 obtain⟨id,_,h6⟩:=mw k b h1;exact .inr (.inr ⟨id,h6⟩)
def zN3{I J:Imm}{x:Tree}{v:Value}(hp:zBm x=true)(h:TR I x v):TR J x v:=by
 have atom:∀ {c:Tree} {v:Value},(match c with
   |.sl _ _ _|.agg _|.ifc _ _=>false
   |_=>true)=true→TR I c v→TR J c v:=by
  intro c v hc hv;cases hv with
  |bool b=>exact .bool b
  |int k n=>exact .int k n
  |str s hs=>exact .str s hs
  |sl=>cases hc
  |agg=>cases hc
  |ifc=>cases hc
  |nilifc=>exact .nilifc
  |fn f=>exact .fn f
  |nilfn=>exact .nilfn
  |nilptr=>exact .nilptr
  |nilmap=>exact .nilmap
 cases h with
 |bool b=>exact .bool b
 |int k n=>exact .int k n
 |str s hs=>exact .str s hs
 |sl=>cases hp
 |agg cs vs hl h =>
  refine .agg cs vs hl fun i c v hc hv=>atom ?_ (h i c v hc hv)
  simp only[zBm,List.all_eq_true] at hp;exact hp c (List.mem_of_getElem? hc)
 |ifc t x v h=>exact .ifc t x v (atom hp h)
 |nilifc=>exact .nilifc
 |fn f=>exact .fn f
 |nilfn=>exact .nilfn
 |nilptr=>exact .nilptr
 |nilmap=>exact .nilmap
def zPu{γ γ':G}{g g':Look}{v:AV}{u:Value}(hp:plain v=true)(h:VR γ g v u):VR γ' g' v u:=by
 cases h with
 |t x v h=>exact .t x u (zN3 hp h)
 |nov=>exact .nov
 |tup cs vs hl h =>
  refine .tup cs vs hl fun i c v hc hv=>?_
  simp only[plain,List.all_eq_true] at hp;have rq:=hp c (List.mem_of_getElem? hc);have rT:=h i c v hc hv;cases rT with
  |t x v h=>exact .t x _ (zN3 rq h)
  |nov=>exact .nov
  |ifx t v=>exact .ifx t v
  |_=>cases rq
 |ifx t v=>exact .ifx t v
 |_=>cases hp
def zOq(γ:G)(g:Look)(w:World)(p:Patch)(hI:Out)(e:Ending)(w':World):Prop :=
 ∃ γ',Ext γ g γ' (upd g p)∧HR γ' (upd g p) w'∧Fr γ w γ' w'∧Ends γ' (upd g p) hI e
theorem HR.of_keep{γ:G}{g:Look}{w w':World}(h:HR γ g w)(hk:∀b,b<w.heap.size→w'.heap[b]?=w.heap[b]?):HR γ g w':=by
 refine⟨fun id b hb=>?_,h.inj,fun b o v hv=>?_⟩
 ·obtain⟨o,ho,ki⟩:=h.obj id b hb;exact⟨o,ho,ki.mono (.refl _ _) (hk b ki.lt) rfl (fun _=>rfl)⟩
 have hc:=h.imm b o v hv;rw[kX (hk b (zEL hc))];exact hc
def zEX {P:Program} {w0:World} {ρ:Oracle} (hρ:xX P w0 ρ) {γ γ1:G} {g:Look} {w:World} {frz:Patch} {nid:Nat} {f:FuncId} {args:List AV} {vs:List Value}
  {hI:Out} {p:Patch} (hr:HR γ g w) (hb:Base w0 γ1 w) (e1:Ext γ g γ1 (upd g frz)) (my:HR γ1 (upd g frz) w) (f1:Fr γ w γ1 w) (hv:VRs γ1 (upd g frz) args vs)
  (hx:vY ρ (upd g frz) frz nid f args=some (hI,p)) (hL:∀i o,nid≤i→(i,o) ∈ p→γ1.β i=none∧upd g frz i=none) :
  CK P f vs w (zOq γ g w p hI):=by
 unfold vY at hx;split at hx
 ·cases hx
 rename_i ids mh;have mV:=zD1 _ _ _ _ mh (by simp);split at hx
 ·cases hx
 rename_i h hs
 -- what the callee's answer is
 have main:∀(o:Out) (v:AV) (h':Heap),(o=.val v∨o=.pan v)→ρ f (renL (upd g frz) ids args) h=some (o,h') →
   (∀i x,nid≤i→(i,x) ∈ (xM (upd g frz) frz nid ids v h').2→γ1.β i=none∧upd g frz i=none) →
   CK P f vs w fun e w'=>∃ γ',Ext γ g γ' (upd g (xM (upd g frz) frz nid ids v h').2)∧HR γ' (upd g (xM (upd g frz) frz nid ids v h').2) w'∧Fr γ w γ' w' ∧
    ((o=.val v→∃u,e=.returned u∧VR γ' (upd g (xM (upd g frz) frz nid ids v h').2) (xM (upd g frz) frz nid ids v h').1 u) ∧
     (o=.pan v→∃u,e=.panicked [{ v:=u,recovered:=false }]∧VR γ' (upd g (xM (upd g frz) frz nid ids v h').2) (xM (upd g frz) frz nid ids v h').1 u)):=by
  intro o v h' ho ki hL;have rU:Base w0 (γ1.sub ids) w:=⟨hb.1,fun b hP=>⟨(hb.2 b hP).1,fun k hk=>by
   cases hid:ids[k]? with
   |none=>simp only[G.sub,hid] at hk;cases hk
   |some id=>exact(hb.2 b hP).2 id (by simpa only [G.sub,hid] using hk)⟩⟩
  refine CK.mono (hρ f _ h o h' ki (γ1.sub ids) w vs (zUM my hs mV) rU (zPP hs hv)) fun e w' hV=>?_
  obtain⟨γ',k1,k2,k3,k4,k7⟩:=hV;have mi:∀ {γ'':G} {g'':Look} {v':AV},(∀u,VR γ' (nth h') v u→VR γ'' g'' v' u) →
    ((o=.val v→∃u,e=.returned u∧VR γ'' g'' v' u)∧(o=.pan v→∃u,e=.panicked [{ v:=u,recovered:=false }]∧VR γ'' g'' v' u)):=by
   intro γ'' g'' v' hh;refine⟨fun h1=>?_,fun h1=>?_⟩
   ·rw[h1] at k7;cases e with
    |returned u=>exact⟨u,rfl,hh u k7⟩
    |panicked c=>exact False.elim k7
    |outgrown=>exact False.elim k7
   rw[h1] at k7;cases e with
   |returned u=>exact False.elim k7
   |panicked c=>obtain⟨u,rfl,n3⟩:=k7;exact⟨u,rfl,hh u n3⟩
   |outgrown=>exact False.elim k7
  by_cases m7:plain v=true∧ids=[]∧h'=[]
  ·obtain⟨hp,rfl,rfl⟩:=m7;have mD:xM (upd g frz) frz nid [] v []=(v,[]):=by unfold xM;rw[hp]
   rw[mD];have ky:∀b,b<w.heap.size→w'.heap[b]?=w.heap[b]?:=fun b hP=>k2.keep b hP fun k hk=>by simp [G.sub] at hk
   exact⟨γ,.refl _ _,hr.of_keep ky,⟨k2.size,fun b hP _=>ky b hP,fun i b mc=>.inr ⟨i,mc⟩,fun _ _ _ hv=>.inl hv,k2.same⟩,mi fun u hu=>zPu hp hu⟩
  have mD:xM (upd g frz) frz nid ids v h'=(back ⟨nth h',ids.length,ids,vN (upd g frz) ids,nid⟩ depth v,frz++vE ⟨nth h',ids.length,ids,vN (upd g frz) ids,nid⟩ 0 h'):=by
   unfold xM;split
   ·rename_i h1;exact absurd ⟨h1,rfl,rfl⟩ m7
   rfl
  rw[mD] at hL ⊢;have ka:=(zCI hs).1;obtain⟨γ'',e2,mR,f2,n3⟩:=zXx (nid:=nid) my mV hs k1 k2 k3 k4 (fun j hj=>by
   refine hL (nid+j) _ (by omega) (List.mem_append_right _ ((zCa 0 h' _ _).2 ⟨ids.length+j,h'[ids.length+j],List.getElem?_eq_getElem hj,?_,rfl⟩));simp only[Nat.zero_add,Way.id];have hb:Nat.blt (ids.length+j) ids.length=false:=by
    cases hb:Nat.blt (ids.length+j) ids.length with
    |false=>rfl
    |true=>rw[Nat.blt_eq] at hb;omega
   rw[hb,cond_false];omega)
  rw[← jX] at e2 mR n3;exact⟨γ'',e1.trans e2,mR,f1.trans f2,mi fun u hu=>n3 v u hu⟩
 split at hx
 ·cases hx
 ·rename_i v h' ki;cases hx;refine CK.mono (main _ v h' (.inl rfl) ki hL) fun e w' ⟨γ',h1,h2,h3,h4,_⟩=>?_
  obtain⟨u,rfl,hu⟩:=h4 rfl;exact⟨γ',h1,h2,h3,hu⟩
 rename_i v h' ki;cases hx;refine CK.mono (main _ v h' (.inr rfl) ki hL) fun e w' ⟨γ',h1,h2,h3,_,h4⟩=>?_
 obtain⟨u,rfl,hu⟩:=h4 rfl;exact⟨γ',h1,h2,h3,u,rfl,hu⟩
def uM(C:Cfg)(w0:World):Prop :=
 C.P.funcs.size≤xG∧∀f args v,C.prim f args=some v→plain v=true→∀(γ:G) (g:Look) (w:World) (vs:List Value),HR γ g w→Base w0 γ w→VRs γ g args vs →
  Calls C.P f vs.toArray w fun e w'=>∃u,e=.returned u∧VR γ g v u∧(w'.os=w.os∧w'.output=w.output)∧w.heap.size≤w'.heap.size∧∀b,b<w.heap.size→w'.heap[b]?=w.heap[b]?
def zNe{γ γ1:G}{g:Look}{w:World}:∀ {args:List AV} {vs:List Value} {l:List Nat},(∀x ∈ args,∀id ∈ yO g x,id ∈ l)→Ext γ g γ1 (upd g (xF g l))→HR γ1 (upd g (xF g l)) w →
  VRs γ g args vs→VRs γ1 (upd g (xF g l)) (args.map (view g)) vs
 |[],vs,l,_,_,_,hv=>by rw[hv.nil_inv];exact .nil
 |x::args,vs,l,hl,e,hr,hv=>by
  obtain⟨v,vs',rfl,hx,nE⟩:=hv.cases_cons;refine .cons (zGU hr (fun id hid s ver frz es hg=>?_) (hx.mono e)) (zNe (fun y hy=>hl y (List.mem_cons_of_mem _ hy)) e hr nE);exact(vW g l).upd_eq hg ⟨_,zDq hg (hl x (.head _) id hid)⟩
def wD{α β:Type}{f:α→List β}{y:β}:∀ {l:List α},y ∈ catMap f l↔∃x ∈ l,y ∈ f x
 |[]=>by simp [catMap]
 |a::l=>by simp [catMap,wD (l:=l)]
def zI0 {P : Program} {f : FuncId} (h : yY P f = true) : ∃ fn c, P.funcs[f]? = some fn ∧ fn.body = some c ∧ fn.name ≠ "runtime.NumGoroutine" := by
 unfold yY at h;rw[yP] at h;cases hf:P.funcs.toList[f]? with
 |none=>rw[hf] at h;cases h
 |some fn =>
  rw[hf] at h;simp only[Bool.and_eq_true,bne_iff_ne,ne_eq] at h;obtain⟨c,hc⟩:=Option.isSome_iff_exists.1 h.1;exact⟨fn,c,by simpa using hf,hc,h.2⟩
def zHm{P:Program}{f:FuncId}(h:yY P f=true):f<P.funcs.size:=by
 obtain⟨fn,c,h1,_⟩:=zI0 h;exact(Array.getElem?_eq_some_iff.1 h1).1
def zF7 {C:Cfg} {w0:World} {ρ:Oracle} (hρ:xX C.P w0 ρ) (hO:uM C w0) {γ:G} {g:Look} {w:World} {nid:Nat} {f:FuncId} {args:List AV} {vs:List Value}
  {hI:Out} {p:Patch} (hr:HR γ g w) (hb:Base w0 γ w) (hv:VRs γ g args vs) (hx:jL C ρ g nid f args=some (hI,p))
  (hL:∀i o,nid≤i→(i,o) ∈ p→γ.β i=none∧g i=none):yY C.P f=true∧Calls C.P f vs.toArray w (zOq γ g w p hI):=by
 unfold jL at hx;split at hx
 ·split at hx
  ·rename_i hM;exact⟨hM,(zEX (γ1:=γ) (frz:=[]) hρ hr hb (.refl _ _) hr (.refl _ _) hv hx hL).calls (zHm hM)⟩
  cases hx
 obtain⟨γ1,e1,my,f1,hβ⟩:=zDk hr (vW g (catMap (yO g) args));have n4:=zNe (args:=args) (l:=catMap (yO g) args) (fun x hx id hid=>wD.2 ⟨x,hx,hid⟩) e1 my hv;have m8:=hb.mono f1;split at hx
 ·rename_i v nF;split at hx
  ·rename_i hp hM;cases hx;refine⟨hM,Calls.mono (hO.2 f _ v nF hp γ1 _ w vs my m8 n4) fun e w' ⟨u,he,hu,rV,mg,hk⟩=>?_⟩;subst he;exact⟨γ,.refl _ _,hr.of_keep hk,⟨mg,fun b hP _=>hk b hP,fun i b mc=>.inr ⟨i,mc⟩,fun _ _ _ hv=>.inl hv,rV⟩,zPu hp hu⟩
  cases hx
 split at hx
 ·rename_i hM;refine⟨hM,(zEX hρ hr m8 e1 my f1 n4 hx fun i o hi ho=>?_).calls (zHm hM)⟩;obtain⟨h1,h2⟩:=hL i o hi ho;exact⟨by rw[hβ];exact h1,(vW g _).upd_none h2⟩
 cases hx
section
variable {P:Program} {rr:Option Nat} {γ:G} {g:Look} {w:World} {o:Oper} {a:Act} {p:Patch} {next:Act→World→Prop} {Q:Exit→Act→World→Prop}
theorem xI {s:Sem Value} {v:AV} (h:Good γ g w p v (s.run P w))
  (hn:∀u w' γ',Ext γ g γ' (upd g p)→HR γ' (upd g p) w'→Fr γ w γ' w'→VR γ' (upd g p) v u→next (a.put o.dst u) w') :
  o.uponIn (Wd rr) 0 P a next Q ((do pure (Next.value (← s)):Sem Next).run P w):=by
 obtain⟨u,w',γ',hr,e,hh,hv,f⟩:=h;simp only[Sem.run_bind,hr,Result.andThen_ok,Sem.run_pure];exact hn u w' γ' e hh f hv
theorem zHq {s:Sem Unit} (h:zLB γ g w p (s.run P w))
  (hn:∀u w' γ',Ext γ g γ' (upd g p)→HR γ' (upd g p) w'→Fr γ w γ' w'→VR γ' (upd g p) .nov u→next (a.put o.dst u) w') :
  o.uponIn (Wd rr) 0 P a next Q ((do s;pure Next.skip:Sem Next).run P w):=by
 obtain⟨w',γ',hr,e,hh,f⟩:=h;simp only[Sem.run_bind,hr,Result.andThen_ok,Sem.run_pure];exact hn undef w' γ' e hh f .nov
theorem zDy{f:FuncId}{args:Array Value}(h:yY P f=true):(callFunc f args).run P w=.ok (.enter f args) w:=by
 obtain⟨fn,c,h1,h2,h3⟩:=zI0 h;unfold callFunc;simp [h1,h2,h3]
end
section
variable {C:Cfg} {rr:Option Nat} {γ:G} {g:Look} {w:World} {o:Oper} {a:Act} {next:Act→World→Prop} {Q:Exit→Act→World→Prop}
def Goes(γ:G)(g:Look)(w:World)(o:Oper)(a:Act)(next:Act→World→Prop)(Q:Exit→Act→World→Prop)(hI:Out)(p:Patch):Prop :=
 ∀u w' γ',Ext γ g γ' (upd g p)→HR γ' (upd g p) w'→Fr γ w γ' w'→match hI with
  |.val v=>VR γ' (upd g p) v u→next (a.put o.dst u) w'
  |.pan v=>VR γ' (upd g p) v u→Q (.panic [{ v:=u,recovered:=false }]) a w'
theorem Goes.pure{v:AV}{u:Value}(h:HR γ g w)(hv:VR γ g v u)(hg:Goes γ g w o a next Q (.val v) []):next (a.put o.dst u) w :=
 hg u w γ (.refl _ _) h (.refl _ _) hv
theorem zHM {x:Operand} {T:Env} {hI:Out} {p:Patch} (h:HR γ g w) (he:ER γ g T a) (hx:ret (zN T x)=some (hI,p))
  (hg:Goes γ g w o a next Q hI p):next (a.put o.dst (a.eval x)) w:=by
 unfold ret at hx;cases hx;exact hg.pure h (yB he x)
theorem zNJ {f:FuncId} {args:Array Value} {hI:Out} {p:Patch} (hb:yY C.P f=true) (hc:Calls C.P f args w (zOq γ g w p hI))
  (hg:Goes γ g w o a next Q hI p):o.uponIn (Wd rr) 0 C.P a next Q ((callFunc f args).run C.P w):=by
 rw[zDy hb,Oper.uponIn_enter];refine⟨fun h=>by simp [Fence.wide] at h,zHj.2 (Calls.mono hc ?_)⟩;refine fun e w' ⟨γ',h1,h2,h3,h4⟩=>?_
 cases hI with
 |val v =>
  cases e with
  |returned u=>exact hg u w' γ' h1 h2 h3 h4
  |panicked c=>exact False.elim h4
  |outgrown=>exact False.elim h4
 |pan v =>
  cases e with
  |returned u=>exact False.elim h4
  |panicked c=>obtain⟨u,rfl,hu⟩:=h4;exact hg u w' γ' h1 h2 h3 hu
  |outgrown=>exact False.elim h4
theorem zD5 {b:Builtin} {ts:Array TypeId} {type:TypeId} {cs:Array Bool} {args:Array Value} {s:Sem Value} {v:AV} {p:Patch}
  (hs:builtin b ts type cs args=(do pure (Next.value (← s)):Sem Next)) (h:Good γ g w p v (s.run C.P w)) (hg:Goes γ g w o a next Q (.val v) p) :
  o.uponIn (Wd rr) 0 C.P a next Q ((builtin b ts type cs args).run C.P w):=by
 rw[hs];exact xI h hg
theorem zPk {b:Builtin} {nid:Nat} {ts:Array TypeId} {type:TypeId} {cs:Array Bool} {xs:List AV} {us:List Value} {hI:Out} {p:Patch} (h:HR γ g w)
  (hv:VRs γ g xs us) (hx:vH C.P g nid b ts.toList xs=some (hI,p)) (hL:(∃x,(nid,x) ∈ p)→γ.β nid=none∧g nid=none)
  (hg:Goes γ g w o a next Q hI p):o.uponIn (Wd rr) 0 C.P a next Q ((builtin b ts type cs us.toArray).run C.P w):=by
 unfold vH at hx;split at hx
 ·rename_i t hE nG;have hJ:∃v,hI=.val v:=by
   unfold xLen at hx;split at hx
   ·split at hx
    ·unfold ret at hx;cases hx;exact⟨_,rfl⟩
    ·unfold ret at hx;cases hx;exact⟨_,rfl⟩
    ·split at hx
     ·unfold ret at hx;cases hx;exact⟨_,rfl⟩
     cases hx
    cases hx
   cases hx
  obtain⟨v,rfl⟩:=hJ;have:=zYG (ty:=type) (ts:=hE) h hv hx;have e:(t::hE).toArray=ts:=by rw[← nG]
  rw[e] at this;exact zD5 rfl this hg
 ·rename_i t t' s x nG;obtain⟨us1,us',rfl,h1,h2⟩:=hv.cases_cons;obtain⟨us2,us'',rfl,h3,h4⟩:=h2.cases_cons;have:=h4.nil_inv;subst this;have hJ:∃v,hI=.val v:=by
   unfold append at hx
   repeat' split at hx
   all_goals first|(cases hx;done)|(cases hx;exact⟨_,rfl⟩)|(unfold ret at hx;cases hx;exact⟨_,rfl⟩)
  obtain⟨v,rfl⟩:=hJ;have:=zSI (ty:=type) h (fun hh=>(hL hh).1) (fun hh=>(hL hh).2) h1 h3 hx;have e:#[t,t']=ts:=by
                 have:[t,t'].toArray=ts:=by rw[← nG]
                 exact this
  rw[e] at this;exact zD5 rfl this hg
 ·rename_i x hE;obtain⟨u,us',rfl,h1,h2⟩:=hv.cases_cons;cases hI with
  |pan v=>exact absurd hx zKT
  |val v =>
   obtain⟨hm,rfl⟩:=zAY hx;exact zD5 (s:=us'.foldlM Builtin.max2 u) rfl (zEV false h h1 h2 hm) hg
 ·rename_i x hE;obtain⟨u,us',rfl,h1,h2⟩:=hv.cases_cons;cases hI with
  |pan v=>exact absurd hx zKT
  |val v =>
   obtain⟨hm,rfl⟩:=zAY hx;exact zD5 (s:=us'.foldlM Builtin.min2 u) rfl (zEV true h h1 h2 hm) hg
 cases hx
theorem zVl {w0:World} {ρ:Oracle} (hρ:xX C.P w0 ρ) (hO:uM C w0) {nid:Nat} {T:Env} {c:Call} {hI:Out} {p:Patch} (h:HR γ g w) (hb:Base w0 γ w)
  (he:ER γ g T a) (hx:jM C ρ g nid T c=some (hI,p)) (hL:∀i x,nid≤i→(i,x) ∈ p→γ.β i=none∧g i=none)
  (hg:Goes γ g w o a next Q hI p) (type:TypeId):o.uponIn (Wd rr) 0 C.P a next Q ((do let d ← resolve a.eval c type;invoke d.target d.args:Sem Next).run C.P w):=by
 have kk:c.args.map a.eval=(c.args.toList.map a.eval).toArray:=by
  apply Array.ext';rw[Array.toList_map]
 have km:=zFs he c.args.toList;unfold jM at hx;unfold resolve;split at hx
 ·rename_i f hf;have ku:=yB he f;simp only[hf];split at hx
  ·rename_i f' hH;rw[hH] at ku;have mS:a.eval f=.func (.func f') #[] #[]:=by
    generalize a.eval f=fv at ku;cases ku with
    |t _ _ ht=>cases ht;rfl
   rw[mS];obtain⟨hM,hc⟩:=zF7 hρ hO h hb km hx hL;simp only[Deferred.ofValue,Sem.run_bind,Sem.run_pure,Result.andThen_ok,invoke,kk]
   simpa using zNJ hM hc hg
  ·rename_i f' first captured hH
   rw[hH] at ku;generalize mS:a.eval f=fv at ku;cases ku with
   |fn _ _ _ us vs hl mI h1 h2 =>
    have kd:VRs γ g first us:=⟨hl,h1⟩
    have mJ:VRs γ g captured vs:=⟨mI,h2⟩
    obtain⟨hM,hc⟩:=zF7 hρ hO h hb (kd.append (km.append mJ)) hx hL;simp only[Deferred.ofValue,Sem.run_bind,Sem.run_pure,Result.andThen_ok,invoke,kk];have k0:us.toArray++(c.args.toList.map a.eval).toArray++vs.toArray=(us++(c.args.toList.map a.eval++vs)).toArray:=by simp
    rw[k0];exact zNJ hM hc hg
  ·rename_i id hH;rw[hH] at ku;generalize mS:a.eval f=fv at ku;cases ku with
   |yld _ b hβ hc =>
    simp only[Deferred.ofValue,Sem.run_bind,Sem.run_pure,Result.andThen_ok,invoke,kk];have rW:VRs γ g (.yld id::opds T c.args.toList) (.func (.yield b) #[] #[]::c.args.toList.map a.eval):=.cons (.yld id b hβ hc) km;have rX:¬ vL<C.P.funcs.size:=by have:=hO.1;unfold xG at this;unfold vL;omega
    have mT:=zEX (γ1:=γ) (frz:=[]) hρ h hb (.refl _ _) h (.refl _ _) rW hx hL;unfold CK at mT;rw[if_neg rX,if_pos rfl] at mT;obtain⟨l,us,fn,tmps,asg,body,e1,e2,e3⟩:=mT;cases e1;rw[Array.empty_append];rw[e2,Oper.uponIn_round];refine⟨fun h=>by simp [Fence.wide] at h,(e3 rr).mono fun e w' ⟨γ',h1,h2,h3,h4⟩=>?_⟩;cases hI with
    |val v =>
     cases e with
     |returned u=>exact hg u w' γ' h1 h2 h3 h4
     |panicked c=>exact False.elim h4
     |outgrown=>exact False.elim h4
    |pan v =>
     cases e with
     |returned u=>exact False.elim h4
     |panicked c=>obtain⟨u,rfl,hu⟩:=h4;exact hg u w' γ' h1 h2 h3 hu
     |outgrown=>exact False.elim h4
  cases hx
 ·rename_i qh;simp only[qh];split at hx
  ·rename_i x hH;obtain⟨t,v,rfl,rfl,rfl⟩:=zLp hx;rw[hH] at km;obtain⟨u,us,e1,hu,nm⟩:=km.cases_cons;have:=nm.nil_inv;subst this;simp only[Sem.run_bind,Sem.run_pure,Result.andThen_ok,invoke,kk,e1]
   show o.uponIn (Wd rr) 0 C.P a next Q ((do pure (Next.value (← Instr.panic u)):Sem Next).run C.P w)
   rw[Sem.run_bind,zNj hu];exact hg u w γ (.refl _ _) h (.refl _ _) hu
  cases hx
 ·rename_i b n5 qh;simp only[qh];simp only[Sem.run_bind,Sem.run_pure,Result.andThen_ok,invoke,kk];exact zPk h km hx (fun⟨x,hx⟩=>hL nid x (Nat.le_refl _) hx) hg
 cases hx
theorem jA{x:Option AV}{hI:Out}{p:Patch}(h:retO x=some (hI,p)):∃v,hI=.val v∧x=some v∧p=[]:=by
 cases hI with
 |pan v=>exact absurd h zKT
 |val v=>exact⟨v,rfl,(zAY h).1,(zAY h).2⟩
theorem zFU {w0:World} {ρ:Oracle} (hρ:xX C.P w0 ρ) (hO:uM C w0) {nid:Nat} {T:Env} {hI:Out} {p:Patch} (h:HR γ g w) (hb:Base w0 γ w)
  (he:ER γ g T a) (hx:exec1 C ρ g nid T o=some (hI,p)) (hL:∀i x,nid≤i→(i,x) ∈ p→γ.β i=none∧g i=none)
  (hg:Goes γ g w o a next Q hI p):o.wpIn (Wd rr) 0 C.P a w next Q:=by
 have kg:(∃x,(nid,x) ∈ p)→γ.β nid=none∧g nid=none:=fun⟨x,hx⟩=>hL nid x (Nat.le_refl _) hx
 refine⟨fun _ _=>trivial,?_⟩;rw[Oper.semAt_eq _ _ _ (fun c hc=>by unfold exec1 at hx;rw[hc] at hx;cases hx)];unfold exec1 at hx;unfold execOp;split at hx
 ·rename_i x hH;simp only[hH,Sem.run_pure,Oper.uponIn_value];exact zHM h he hx hg
 ·rename_i x hH;simp only[hH,Sem.run_pure,Oper.uponIn_value];exact zHM h he hx hg
 ·rename_i c x y hH;simp only[hH];have hc:=yB he c;unfold zBQ at hx;split at hx
  ·rename_i qi;rw[qi] at hc;have:a.eval c=.bool true:=by
    generalize a.eval c=cv at hc;cases hc with
    |t _ _ ht=>cases ht;rfl
   rw[this];exact zHM h he hx hg
  ·rename_i qi;rw[qi] at hc;have:a.eval c=.bool false:=by
    generalize a.eval c=cv at hc;cases hc with
    |t _ _ ht=>cases ht;rfl
   rw[this];exact zHM h he hx hg
  cases hx
 ·rename_i t hH;simp only[hH];have hJ:∃v,hI=.val v∧∃x,(nid,x) ∈ p:=by
   unfold jB at hx;split at hx
   ·cases hx;exact⟨_,rfl,_,.head _⟩
   cases hx
  obtain⟨v,rfl,mz⟩:=hJ;exact xI (zV0 h (kg mz).1 (kg mz).2 hx) hg
 ·rename_i t x hH;simp only[hH];have hJ:∃v,hI=.val v∧∃x,(nid,x) ∈ p:=by
   unfold xBox at hx;split at hx
   ·cases hx;exact⟨_,rfl,_,.head _⟩
   cases hx
  obtain⟨v,rfl,mz⟩:=hJ;exact xI (zYQ h (kg mz).1 (kg mz).2 (yB he x) hx) hg
 ·rename_i t parts hH;simp only[hH];obtain⟨v,rfl,mA,rfl⟩:=jA hx;refine xI (zTQ h ?_ mA) hg
  simpa using zIs he parts.toList
 ·rename_i t n parts hH;simp only[hH];have hJ:∃v,hI=.val v∧∃x,(nid,x) ∈ p:=by
   unfold wU at hx
   repeat' split at hx
   all_goals first|(cases hx;done)|(cases hx;exact⟨_,rfl,_,List.mem_append_right _ (.head _)⟩)
  obtain⟨v,rfl,mz⟩:=hJ;refine xI (zMF h (kg mz).1 (kg mz).2 ?_ hx) hg
  simpa using zIs he parts.toList
 ·rename_i t x hH;simp only[hH];obtain⟨v,rfl,mA,rfl⟩:=jA hx;exact xI (zV4 h (yB he x) mA) hg
 ·rename_i t x y hH;simp only[hH];have hJ:∃v,hI=.val v:=by
   unfold kD at hx;split at hx
   ·dsimp only at hx;split at hx
    ·split at hx
     ·split at hx
      ·cases hx;exact⟨_,rfl⟩
      cases hx
     cases hx
    cases hx
   cases hx
  obtain⟨v,rfl⟩:=hJ;obtain⟨rfl,nH⟩:=zS5 h (yB he x) (yB he y) hx;exact zHq nH hg
 ·rename_i x hH;simp only[hH];obtain⟨v,rfl,mA,rfl⟩:=jA hx;have nI:=yB he x;generalize a.eval x=u at nI ⊢;obtain⟨rfl,hr⟩:=zPy (P:=C.P) (w:=w) nI mA;have mK:o.uponIn (Wd rr) 0 C.P a next Q (.ok (.value u) w):=by rw[Oper.uponIn_value];exact hg.pure h nI
  rw[← hr] at mK;exact mK
 ·rename_i op t x y ty hH;simp only[hH];obtain⟨v,rfl,mA,rfl⟩:=jA hx;exact xI (zSo x y h (yB he x) (yB he y) mA) hg
 ·rename_i op t x hH;simp only[hH];obtain⟨v,rfl,mA,rfl⟩:=jA hx;exact xI (zWX h (yB he x) mA) hg
 ·rename_i s d x hH;simp only[hH];have hJ:∃v,hI=.val v:=by
   unfold convert at hx
   repeat' split at hx
   all_goals first|(cases hx;done)|(cases hx;exact⟨_,rfl⟩)|(unfold ret at hx;cases hx;exact⟨_,rfl⟩)
  obtain⟨v,rfl⟩:=hJ;exact xI (zQd h (fun hh=>(kg hh).1) (fun hh=>(kg hh).2) (yB he x) hx) hg
 ·rename_i f first captured hH
  simp only[hH];unfold ret at hx;cases hx;have h1:=zFs he first.toList
  have h2:=zFs he captured.toList;have:VR γ g (.fn f (opds T first.toList) (opds T captured.toList)) (.func (.func f) (first.map a.eval) (captured.map a.eval)):=by
   have e1:first.map a.eval=(first.toList.map a.eval).toArray:=by apply Array.ext';rw[Array.toList_map]
   have e2:captured.map a.eval=(captured.toList.map a.eval).toArray:=by apply Array.ext';rw[Array.toList_map]
   rw[e1,e2];exact .fn f _ _ _ _ h1.1 h2.1 h1.2 h2.2
  refine xI (s:=Instr.makeFunc (.func f) (first.map a.eval) (captured.map a.eval)) (v:=.fn f (opds T first.toList) (opds T captured.toList)) ?_ hg;exact .pure h this
 ·rename_i t l c hH;simp only[hH];have hJ:∃v,hI=.val v∧∃x,(nid,x) ∈ p:=by
   unfold jU at hx
   repeat' split at hx
   all_goals first|(cases hx;done)|(cases hx;exact⟨_,rfl,_,.head _⟩)
  obtain⟨v,rfl,mz⟩:=hJ;exact xI (zOd h (kg mz).1 (kg mz).2 (yB he l) (yB he c) hx) hg
 ·rename_i t x lo hi mx hH;simp only[hH];unfold zBE at hx;split at hx
  ·rename_i lo' n6 mx' h1 h2 h3;obtain⟨v,rfl,mA,rfl⟩:=jA hx;exact xI (zU8 h (yB he x) (zKh he h1) (zKh he h2) (zKh he h3) mA) hg
  cases hx
 ·rename_i s x f hH;simp only[hH];have hJ:∃v,hI=.val v:=by
   unfold zS at hx
   repeat' split at hx
   all_goals first|(cases hx;done)|(obtain⟨v,h1,_⟩:=jA hx;exact⟨v,h1⟩)
  obtain⟨v,rfl⟩:=hJ;exact xI (zOg h (yB he x) hx) hg
 ·rename_i s x f hH;simp only[hH];have hJ:∃v,hI=.val v:=by
   unfold yG at hx
   repeat' split at hx
   all_goals first|(cases hx;done)|(obtain⟨v,h1,_⟩:=jA hx;exact⟨v,h1⟩)
  obtain⟨v,rfl⟩:=hJ;exact xI (zUg h (yB he x) hx) hg
 ·rename_i t x i hH;simp only[hH];have hJ:∃v,hI=.val v:=by
   unfold wG at hx
   repeat' split at hx
   all_goals first|(cases hx;done)|(obtain⟨v,h1,_⟩:=jA hx;exact⟨v,h1⟩)
  obtain⟨v,rfl⟩:=hJ;exact xI (zOf h (yB he x) (yB he i) hx) hg
 ·rename_i t x i hH;simp only[hH];have hJ:∃v,hI=.val v:=by
   unfold jH at hx
   repeat' split at hx
   all_goals first|(cases hx;done)|(obtain⟨v,h1,_⟩:=jA hx;exact⟨v,h1⟩)
  obtain⟨v,rfl⟩:=hJ;exact xI (zTa h (yB he x) (yB he i) hx) hg
 ·rename_i t x hH;simp only[hH];have hJ:∃v,hI=.val v∧∃x,(nid,x) ∈ p:=by
   unfold zGz at hx
   repeat' split at hx
   all_goals first|(cases hx;done)|(cases hx;exact⟨_,rfl,_,.head _⟩)
  obtain⟨v,rfl,mz⟩:=hJ;exact xI (zVA h (kg mz).1 (kg mz).2 (yB he x) hx) hg
 ·rename_i it hH;simp only[hH];have hJ:∃v,hI=.val v:=by
   unfold zE8 at hx
   repeat' split at hx
   all_goals first|(cases hx;done)|(cases hx;exact⟨_,rfl⟩)|(unfold ret at hx;cases hx;exact⟨_,rfl⟩)
  obtain⟨v,rfl⟩:=hJ;exact xI (zWj h (yB he it) hx) hg
 ·rename_i t i hH;simp only[hH];have hJ:∃v,hI=.val v:=by
   unfold uC at hx
   repeat' split at hx
   all_goals first|(cases hx;done)|(obtain⟨v,h1,_⟩:=jA hx;exact⟨v,h1⟩)
  obtain⟨v,rfl⟩:=hJ;exact xI (zQi h (yB he t) hx) hg
 ·rename_i c hH;simp only[hH];exact zVl hρ hO h hb he hx hL hg o.type
 ·rename_i t x hH;simp only[hH];have hJ:∃v,hI=.val v:=by
   unfold zBw at hx
   repeat' split at hx
   all_goals first|(cases hx;done)|(unfold ret at hx;cases hx;exact⟨_,rfl⟩)
  obtain⟨v,rfl⟩:=hJ;exact xI (zUu h (yB he x) hx) hg
 ·rename_i x xt t ok hH;simp only[hH];have hJ:∃v,hI=.val v:=by
   unfold kT at hx
   repeat' split at hx
   all_goals first|(cases hx;done)|(unfold ret at hx;cases hx;exact⟨_,rfl⟩)
  obtain⟨v,rfl⟩:=hJ;exact xI (zRH h (yB he x) hx) hg
 ·rename_i x hH;simp only[hH];obtain⟨t,v,e1,rfl,rfl⟩:=zLp hx;have hu:=yB he x;rw[e1] at hu hg
  show o.uponIn (Wd rr) 0 C.P a next Q ((do pure (Next.value (← Instr.panic (a.eval x))):Sem Next).run C.P w)
  rw[Sem.run_bind,zNj hu];exact hg _ w γ (.refl _ _) h (.refl _ _) hu
 ·rename_i t hH;simp only[hH];cases hx;exact xI (zQm t h (kg ⟨_,.head _⟩).1 (kg ⟨_,.head _⟩).2) hg
 ·rename_i t x i ok hH;simp only[hH];have hJ:∃v,hI=.val v:=by
   unfold qV at hx
   repeat' split at hx
   all_goals first|(cases hx;done)|(unfold ret at hx;cases hx;exact⟨_,rfl⟩)
  obtain⟨v,rfl⟩:=hJ;exact xI (zSe h (yB he x) (yB he i) hx) hg
 ·rename_i t m k y hH;simp only[hH];have hJ:∃v,hI=.val v:=by
   unfold qA at hx
   repeat' split at hx
   all_goals first|(cases hx;done)|(cases hx;exact⟨_,rfl⟩)
  obtain⟨v,rfl⟩:=hJ;obtain⟨rfl,nH⟩:=zL1 h (yB he m) (yB he k) (yB he y) hx;exact zHq nH hg
 ·rename_i t m k y hH;simp only[hH];have hJ:∃v,hI=.val v:=by
   unfold qA at hx
   repeat' split at hx
   all_goals first|(cases hx;done)|(cases hx;exact⟨_,rfl⟩)
  obtain⟨v,rfl⟩:=hJ;obtain⟨rfl,nH⟩:=zL1 h (yB he m) (yB he k) (yB he y) hx;exact zHq nH hg
 cases hx
end
def Same(g g':Look):Prop:=(∀id o,g id=some o→g' id=some o)∧∀id,g id=none→g' id=none∨g' id=some .dead
theorem Same.refl(g:Look):Same g g:=⟨fun _ _ h=>h,fun _ h=>.inl h⟩
theorem Same.cur{g g':Look}(h:Same g g')(id:Nat):Ab.cur g' id=Ab.cur g id:=by
 unfold Ab.cur;cases hg:g id with
 |some o=>rw[h.1 id o hg]
 |none=>rcases h.2 id hg with h1|h1<;>rw[h1]
theorem Same.dims{g g':Look}(h:Same g g')(id:Nat):Ab.dims g' id=Ab.dims g id:=by
 unfold Ab.dims;cases hg:g id with
 |some o=>rw[h.1 id o hg]
 |none=>rcases h.2 id hg with h1|h1<;>rw[h1]
theorem Same.ext{g g':Look}(h:Same g g')(γ:G):Ext γ g γ g' :=
 ⟨.refl _,fun id b hb hc=>⟨hb,by rw[h.cur];exact hc⟩,fun id c hc=>⟨c,by rw[h.cur];exact hc,Nat.le_refl _,fun _=>⟨rfl,rfl,h.dims id⟩⟩⟩
theorem HR.same{γ:G}{g g':Look}{w:World}(hr:HR γ g w)(h:Same g g'):HR γ g' w:=by
 refine⟨fun id b hb=>?_,hr.inj,hr.imm⟩;obtain⟨o,ho,ki⟩:=hr.obj id b hb;exact⟨o,h.1 id o ho,ki.mono (h.ext γ) rfl rfl (fun _=>rfl)⟩
def zFm:∀(h:Heap) (n:Nat) (o:Obj) (i:Nat),nth (put1 h n o) i=if i=n then some o else match nth h i with
  |some x=>some x
  |none=>if i<n then some .dead else none
 |[],0,o,i=>by
  unfold put1;cases i with
  |zero=>simp [nth]
  |succ i=>simp [nth]
 |[],n+1,o,i=>by
  unfold put1;cases i with
  |zero=>simp [nth]
  |succ i =>
   have:=zFm [] n o i;simp only[nth] at this ⊢;rw[this];simp
 |a::h,0,o,i=>by
  unfold put1;cases i with
  |zero=>simp [nth]
  |succ i=>simp only[nth];simp;cases nth h i<;>rfl
 |a::h,n+1,o,i=>by
  unfold put1;cases i with
  |zero=>simp [nth]
  |succ i =>
   have:=zFm h n o i;simp only[nth] at this ⊢;rw[this];simp
def qN:∀ {p:Patch} {g:Look} {h:Heap},Same g (nth h)→Same (upd g p) (nth (patch h p))
 |[],g,h,hs=>hs
 |(id,o)::p,g,h,hs=>by
  unfold upd patch;refine qN ⟨fun i x hx=>?_,fun i hx=>?_⟩
  ·dsimp only at hx;rw[zFm];cases hb:Nat.beq i id with
   |true=>have:=Nat.eq_of_beq_eq_true hb;rw[hb] at hx;simp only[this,if_true];exact hx
   |false =>
    have:=Nat.ne_of_beq_eq_false hb;rw[hb] at hx;simp only[this,if_false];rw[hs.1 i x hx]
  dsimp only at hx;rw[zFm];cases hb:Nat.beq i id with
  |true=>rw[hb] at hx;cases hx
  |false =>
   have:=Nat.ne_of_beq_eq_false hb;rw[hb] at hx;simp only[this,if_false];rcases hs.2 i hx with h1|h1
   ·rw[h1];by_cases hP:i<id<;>simp [hP]
   rw[h1];simp
inductive DOne (γ:G) (g:Look) (w:World) (e:Nat):AV→Deferred→Prop
 |mark (D:Nat) (h1:e≤D) (h2:w.heap[D]?=some (.deferred (some []))) (h3:∀id,γ.β id≠some D):DOne γ g w e .nov { target:=.collected D,args:=#[] }
 |call (v:AV) (d:Deferred) (fv:Fn) (cap:Array Value) (kc:v≠.nov) (h1:d.target=.fn fv cap) (h2:VR γ g v (.func fv d.args cap)):DOne γ g w e v d
def DRel(γ:G)(g:Look)(w:World)(e:Nat):List AV→List Deferred→Prop
 |[],[]=>True
 |v::vs,d::ds=>DOne γ g w e v d∧(∀D,d.target=.collected D→∀d' ∈ ds,d'.target≠.collected D)∧DRel γ g w e vs ds
 |_,_=>False
def zJs{w:World}{b:Nat}{o:Go.Obj}(h:w.heap[b]?=some o):b<w.heap.size:=(Array.getElem?_eq_some_iff.1 h).1
theorem DOne.mono{γ γ':G}{g g':Look}{w w':World}{e:Nat}(x:Ext γ g γ' g')(f:Fr γ w γ' w'){v:AV}{d:Deferred}(h:DOne γ g w e v d):DOne γ' g' w' e v d:=by
 cases h with
 |mark D h1 h2 h3 =>
  refine .mark D h1 (by rw[f.keep D (zJs h2) h3];exact h2) fun id hid=>?_
  rcases f.rng id D hid with h5|⟨i,h5⟩
  ·have:=zJs h2;omega
  exact h3 i h5
 |call v d fv cap kc h1 h2=>exact .call v d fv cap kc h1 (h2.mono x)
theorem DRel.mono{γ γ':G}{g g':Look}{w w':World}{e:Nat}(x:Ext γ g γ' g')(f:Fr γ w γ' w'):∀ {vs:List AV} {ds:List Deferred},DRel γ g w e vs ds→DRel γ' g' w' e vs ds
 |[],[],_=>trivial
 |_::_,_::_,h=>⟨h.1.mono x f,h.2.1,DRel.mono x f h.2.2⟩
 |[],_::_,h=>h.elim
 |_::_,[],h=>h.elim
theorem DRel.lt{γ:G}{g:Look}{w:World}{e:Nat}:∀ {vs:List AV} {ds:List Deferred},DRel γ g w e vs ds→∀d ∈ ds,∀D,d.target=.collected D→D<w.heap.size
 |[],[],_,d,hd,_,_=>by cases hd
 |v::vs,d0::ds,h,d,hd,D,ht=>by
  rcases List.mem_cons.1 hd with rfl|hd
  ·cases h.1 with
   |mark D' h1 h2 h3=>cases ht;exact zJs h2
   |call v d fv cap kc h1 h2=>rw[h1] at ht;cases ht
  exact DRel.lt h.2.2 d hd D ht
 |[],_::_,h,_,_,_,_=>h.elim
 |_::_,[],h,_,_,_,_=>h.elim
def DR(γ:G)(g:Look)(w:World)(e:Nat)(v:AV)(ds:List Deferred):Prop :=
 match v with
 |.unk|.rnd=>ds=[]
 |.dfr vs=>DRel γ g w e vs ds
 |_=>False
theorem DR.mono{γ γ':G}{g g':Look}{w w':World}{e:Nat}(x:Ext γ g γ' g')(f:Fr γ w γ' w'){v:AV}{ds:List Deferred}(h:DR γ g w e v ds):DR γ' g' w' e v ds:=by
 unfold DR at *;split
 ·exact h
 ·exact h
 ·exact DRel.mono x f h
 rename_i h1 h2 h3;split at h
 ·exact(h1 rfl).elim
 ·exact(h2 rfl).elim
 ·exact(h3 _ rfl).elim
 exact h
theorem DR.lt{γ:G}{g:Look}{w:World}{e:Nat}{v:AV}{ds:List Deferred}(h:DR γ g w e v ds):∀d ∈ ds,∀D,d.target=.collected D→D<w.heap.size:=by
 unfold DR at h;split at h
 ·intro d hd;rw[show ds=[] from h] at hd;cases hd
 ·intro d hd;rw[show ds=[] from h] at hd;cases hd
 ·exact h.lt
 exact h.elim
structure Inv (w0:World) (rr:Option Nat) (e k:Nat) (γ:G) (h:Heap) (T:Env) (a:Act) (w:World):Prop where
 hr:HR γ (nth h) w
 base:Base w0 γ w
 er:ER γ (nth h) T a
 sz:k≤a.tmps.size
 nd:DR γ (nth h) w e (get T k) a.defers
 ew:e≤w.heap.size
 ro:rr.isSome=true→get T k=.rnd
def zDR{T:Env}{dst:Option Tmp}{v:AV}{k:Nat}(hd:∀d,dst=some d→d<k):get (putT T dst v) k=get T k:=by
 cases dst with
 |none=>rfl
 |some d =>
  have hP:d<k:=hd d rfl;simp only[putT,get];cases hb:Nat.beq d k with
  |false=>rfl
  |true=>exact absurd (Nat.eq_of_beq_eq_true hb) (Nat.ne_of_lt hP)
theorem HR.free{γ:G}{h:Heap}{w:World}(hr:HR γ (nth h) w){i:Nat}(hi:h.length≤i):γ.β i=none∧nth h i=none:=by
 have h1:nth h i=none:=by rw[yP];exact List.getElem?_eq_none hi
 refine⟨?_,h1⟩;cases hb:γ.β i with
 |none=>rfl
 |some b=>obtain⟨o,ho,_⟩:=hr.obj i b hb;rw[h1] at ho;cases ho
theorem ER.put {γ:G} {g:Look} {T:Env} {a:Act} {dst:Option Tmp} {v:AV} {u:Value} (h:ER γ g T a) (hv:VR γ g v u) (hd:∀d,dst=some d→d<a.tmps.size) :
  ER γ g (putT T dst v) (a.put dst u):=by
 cases dst with
 |none=>exact h
 |some d =>
  intro t;have hP:=hd d rfl;unfold putT;simp only[get,Act.put];cases hb:Nat.beq d t with
  |true =>
   have:=Nat.eq_of_beq_eq_true hb;subst this;simp only;rw[Array.getD_eq_getD_getElem?,Array.getElem?_setIfInBounds_self_of_lt hP];exact hv
  |false =>
   have:=Nat.ne_of_beq_eq_false hb;simp only;rw[Array.getD_eq_getD_getElem?,Array.getElem?_setIfInBounds_ne this,← Array.getD_eq_getD_getElem?];exact h t
theorem ER.mono{γ γ':G}{g g':Look}{T:Env}{a:Act}(e:Ext γ g γ' g')(h:ER γ g T a):ER γ' g' T a:=fun t=>(h t).mono e
def zHi(a:Act)(dst:Option Tmp)(u:Value):(a.put dst u).tmps.size=a.tmps.size:=by
 cases dst<;>simp [Act.put]
def zEK(a:Act)(dst:Option Tmp)(u:Value):(a.put dst u).defers=a.defers:=by
 cases dst<;>rfl
def zCK {γ:G} {g:Look} {T:Env} {a:Act} {hA:Array Oper} {o:Oper} {b:Bool} (h:ER γ g T a) (hw:wanted hA.toList T o=some b) :
  Region.wanted o (yielded hA a.tmps)=b:=by
 unfold wanted at hw;unfold Region.wanted;split at hw
 ·rename_i hg;cases hw;rw[hg]
 rename_i j want hg;rw[hg];simp only;rw[yP] at hw;split at hw
 ·rename_i oj rY;have qj:hA[j]?=some oj:=by simpa using rY
  split at hw
  ·rename_i d hd;have hv:=h d;unfold yielded;simp only[qj,hd,Option.bind_some];split at hw
   ·rename_i b' mW;rw[mW] at hv;rw[Array.getD_eq_getD_getElem?] at hv;have:a.tmps[d]?=some (.bool b'):=by
     cases hx:a.tmps[d]? with
     |none=>rw[hx] at hv;cases hv with
      |t _ _ ht=>exact nomatch ht
     |some x=>rw[hx] at hv;cases hv with
      |t _ _ ht=>cases ht;rfl
    rw[this];cases hw;cases b'<;>cases want<;>rfl
   ·rename_i mW;cases hw;rw[mW] at hv;rw[Array.getD_eq_getD_getElem?] at hv;cases hx:a.tmps[d]? with
    |none=>rfl
    |some x =>
     rw[hx] at hv;cases hv
     rfl
   cases hw
  cases hw
 cases hw
def zEM{k:Nat}{o:Oper}{os:List Oper}(h:uQ k (o::os)=true):(∀d,o.dst=some d→d<k)∧uQ k os=true:=by
 unfold uQ at h;split at h
 ·rename_i d hd;split at h
  ·rename_i hb;refine⟨fun d' mj=>?_,h⟩;rw[hd] at mj;cases mj;rw[Nat.blt_eq] at hb;exact hb
  cases h
 rename_i hd;exact⟨fun d' mj=>(by rw[hd] at mj;cases mj),h⟩
theorem Inv.step {w0:World} {rr:Option Nat} {e k:Nat} {γ γ':G} {h:Heap} {T:Env} {a:Act} {w w':World} {o:Oper} {v:AV} {u:Value} {p:Patch} (hi:Inv w0 rr e k γ h T a w)
  (x:Ext γ (nth h) γ' (upd (nth h) p)) (hh:HR γ' (upd (nth h) p) w') (f:Fr γ w γ' w') (hv:VR γ' (upd (nth h) p) v u) (hd:∀d,o.dst=some d→d<k) :
  Inv w0 rr e k γ' (patch h p) (putT T o.dst v) (a.put o.dst u) w'∧Ext γ (nth h) γ' (nth (patch h p)):=by
 have hs:=qN (p:=p) (Same.refl (nth h));have e':=x.trans (hs.ext γ');refine⟨⟨hh.same hs,hi.base.mono f,(hi.er.mono e').put (hv.mono (hs.ext γ')) fun d mj=>Nat.lt_of_lt_of_le (hd d mj) hi.sz,?_,?_,Nat.le_trans hi.ew f.size,fun hh=>by rw[zDR hd];exact hi.ro hh⟩,e'⟩
 ·rw[zHi];exact hi.sz
 rw[zEK,zDR hd];exact hi.nd.mono e' f
theorem Inv.skip {w0:World} {rr:Option Nat} {e k:Nat} {γ:G} {h:Heap} {T:Env} {a:Act} {w:World} {o:Oper} (hi:Inv w0 rr e k γ h T a w) (hd:∀d,o.dst=some d→d<k) :
  Inv w0 rr e k γ h (putT T o.dst .nov) (a.put o.dst undef) w :=
 ⟨hi.hr,hi.base,hi.er.put .nov fun d mj=>Nat.lt_of_lt_of_le (hd d mj) hi.sz,by rw[zHi];exact hi.sz,by rw[zEK,zDR hd];exact hi.nd,hi.ew,fun hh=>by rw[zDR hd];exact hi.ro hh⟩
theorem Inv.push {w0:World} {rr:Option Nat} {e k:Nat} {γ:G} {h:Heap} {T T':Env} {a:Act} {w:World} {v:AV} {d:Deferred} (hi:Inv w0 rr e k γ h T a w) (hp:kM k v T=some T')
  (hd:DOne γ (nth h) w e v d) (mL:∀D,d.target=.collected D→∀d' ∈ a.defers,d'.target≠.collected D):Inv w0 rr e k γ h T' { a with defers:=d::a.defers } w:=by
 unfold kM at hp;split at hp
 ·rename_i ds m9;cases hp;have kj:=hi.nd;refine⟨hi.hr,hi.base,fun t=>?_,hi.sz,?_,hi.ew,fun hh=>by unfold yK at m9;rw[hi.ro hh] at m9;cases m9⟩
  ·simp only[get];cases hb:Nat.beq k t with
   |true=>exact .dfr _ _
   |false=>exact hi.er t
  simp only[get,Nat.beq_refl];unfold yK at m9;have:DRel γ (nth h) w e ds a.defers:=by
   split at m9
   ·rename_i hg;cases m9;rw[hg] at kj;have:a.defers=[]:=kj;rw[this];trivial
   ·rename_i ds' hg;cases m9;rw[hg] at kj;exact kj
   cases m9
  exact⟨hd,mL,this⟩
 cases hp
def zPN {P:Program} {γ:G} {g:Look} {w:World} {e:Nat} {T:Env} {a:Act} {c:Call} {v:AV} (he:ER γ g T a) (h:deferred T c=some v) (type:TypeId) :
  ∃d,(resolve a.eval c type).run P w=.ok d w∧DOne γ g w e v d∧∀D,d.target≠.collected D:=by
 have kk:c.args.map a.eval=(c.args.toList.map a.eval).toArray:=by
  apply Array.ext';rw[Array.toList_map]
 have km:=zFs he c.args.toList;unfold deferred at h;unfold resolve;split at h
 ·rename_i f hf;have ku:=yB he f;simp only[hf];split at h
  ·rename_i f' hH;rw[hH] at ku;cases h;have mS:a.eval f=.func (.func f') #[] #[]:=by
    generalize a.eval f=fv at ku;cases ku with
    |t _ _ ht=>cases ht;rfl
   rw[mS];refine⟨{ target:=.fn (.func f') #[],args:=#[]++c.args.map a.eval },by simp only[Deferred.ofValue,Sem.run_pure],.call _ _ (.func f') #[] (by simp) rfl ?_,fun D hh=>by cases hh⟩;rw[kk,Array.empty_append];exact .fn f' _ [] _ [] km.1 rfl km.2 (fun i c v hc=>by simp at hc)
  ·rename_i f' first captured hH
   rw[hH] at ku;cases h;generalize mS:a.eval f=fv at ku;cases ku with
   |fn _ _ _ us vs hl mI h1 h2 =>
    have kd:VRs γ g first us:=⟨hl,h1⟩
    refine⟨{ target:=.fn (.func f') vs.toArray,args:=us.toArray++c.args.map a.eval },by simp only[Deferred.ofValue,Sem.run_pure],.call _ _ (.func f') vs.toArray (by simp) rfl ?_,fun D hh=>by cases hh⟩;have:=kd.append km;have e2:us.toArray++c.args.map a.eval=(us++c.args.toList.map a.eval).toArray:=by rw[kk];simp
    show VR γ g _ (.func (.func f') (us.toArray++c.args.map a.eval) vs.toArray)
    rw[e2];exact .fn f' _ _ _ _ this.1 mI this.2 h2
  cases h
 cases h
def zDr {C:Cfg} {w0:World} {rr:Option Nat} {ρ:Oracle} (hρ:xX C.P w0 ρ) (hO:uM C w0) {hA:Array Oper} {e k:Nat} {Q:Exit→Act→World→Prop} :
  ∀(hE:List Oper) (i:Nat),hA.toList.drop i=hE→∀(T:Env) (h:Heap) (γ:G) (a:Act) (w:World) (r:Option AV) (T':Env) (h':Heap),
   xR C ρ k hA.toList hE T h=some (r,T',h')→Inv w0 rr e k γ h T a w→uQ k hE=true →
   (∀ γ' a' w',r=none→Inv w0 rr e k γ' h' T' a' w'→Fr γ w γ' w'→Ext γ (nth h) γ' (nth h')→Q .normal a' w') →
   (∀ γ' a' w' v u,r=some v→Inv w0 rr e k γ' h' T' a' w'→Fr γ w γ' w'→Ext γ (nth h) γ' (nth h')→VR γ' (nth h') v u→Q (.panic [{ v:=u,recovered:=false }]) a' w') →
   wpOpsIn (Wd rr) 0 C.P hA Q (List.range' i hE.length) a w
 |[],i,hi,T,h,γ,a,w,r,T',h',hx,hC,hd,hV,_=>by
  simp only[xR,Option.some.injEq,Prod.mk.injEq] at hx;obtain⟨rfl,rfl,rfl⟩:=hx;simp only[List.length_nil,List.range'_zero,wpOpsIn];exact hV γ a w rfl hC (.refl _ _) (.refl _ _)
 |o::hE,i,hi,T,h,γ,a,w,r,T',h',hx,hC,hd,hV,mX=>by
  obtain⟨mE,k6⟩:=zEM hd;have qk:hA[i]?=some o:=by
   have:(hA.toList.drop i)[0]?=some o:=by rw[hi];rfl
   rw[List.getElem?_drop] at this
   simpa using this
  have h9:hA.toList.drop (i+1)=hE:=by
   rw[← List.tail_drop,hi];rfl
  simp only[List.length_cons,List.range'_succ,wpOpsIn,qk];unfold xR at hx;split at hx
  ·cases hx
  ·rename_i hw;rw[zCK hC.er hw];simp only[Bool.false_eq_true,if_false];exact⟨fun _ _=>trivial,zDr hρ hO hE (i+1) h9 _ h γ _ w r T' h' hx (hC.skip mE) k6 hV mX⟩
  rename_i hw;rw[zCK hC.er hw];simp only[if_true];split at hx
  ·rename_i c hc;split at hx
   ·rename_i d rZ;split at hx
    ·rename_i T1 kh
     -- a call is deferred
     have hH:o.op=.defer c:=by
      unfold zAO at hc;split at hc
      ·rename_i c' hH;cases hc;exact hH
      cases hc
     have k8:rr=none:=by
      cases ql:rr with
      |none=>rfl
      |some l =>
       have h1:rr.isSome=true:=by rw[ql];rfl
       unfold kM yK at kh;rw[hC.ro h1] at kh;cases kh
     obtain⟨dd,ke,r4,r5⟩:=zPN (P:=C.P) (w:=w) (e:=e) hC.er rZ o.type;have nJ:=hC.push kh r4 (fun D hD=>absurd hD (r5 D));refine⟨fun _ _=>trivial,?_⟩;have qm:o.semAt (Wd rr).round a.eval=(do pure (Next.defer (← resolve a.eval c o.type)):Sem Next):=by
      show o.semAt rr a.eval=_
      rw[k8,Oper.semAt_none];unfold execOp;simp only[hH]
     rw[qm];simp only[Sem.run_bind,ke,Result.andThen_ok,Sem.run_pure,Oper.uponIn_defer];exact zDr hρ hO hE (i+1) h9 _ h γ _ w r T' h' hx (nJ.skip mE) k6 hV mX
    cases hx
   cases hx
  split at hx
  ·cases hx
  ·rename_i v p he;simp only[Option.some.injEq,Prod.mk.injEq] at hx;obtain⟨rfl,rfl,rfl⟩:=hx;refine zFU hρ hO hC.hr hC.base hC.er he (fun i x hi _=>hC.hr.free hi) fun u w' γ' x hh f hv=>?_
   have hs:=qN (p:=p) (Same.refl (nth h));have e':=x.trans (hs.ext γ');exact mX γ' a w' v u rfl ⟨hh.same hs,hC.base.mono f,hC.er.mono e',hC.sz,hC.nd.mono e' f,Nat.le_trans hC.ew f.size,hC.ro⟩ f e' (hv.mono (hs.ext γ'))
  rename_i v p he;refine zFU hρ hO hC.hr hC.base hC.er he (fun i x hi _=>hC.hr.free hi) fun u w' γ' x hh f hv=>?_
  obtain⟨k9,e'⟩:=hC.step (o:=o) x hh f hv mE;refine zDr hρ hO hE (i+1) h9 _ _ γ' _ w' r T' h' hx k9 k6 (fun γ'' a'' w'' h0 h1 h2 h3=>hV γ'' a'' w'' h0 h1 (f.trans h2) (e'.trans h3))
   (fun γ'' a'' w'' v' u' h0 h1 h2 h3 h4=>mX γ'' a'' w'' v' u' h0 h1 (f.trans h2) (e'.trans h3) h4)
def zMR:∀(n:Nat) (acc:List Nat),upto n acc=List.range n++acc
 |0,acc=>by simp [upto]
 |n+1,acc=>by rw[upto,zMR n,List.range_succ];simp
def zC4{g:Look}:∀(n:Nat) (todo acc r:List Nat),reach g n todo acc=some r→∃t,r=acc++t
 |0,_,_,_,h=>by simp [reach] at h
 |_+1,[],acc,r,h=>by simp [reach] at h;exact⟨[],by simp [h]⟩
 |n+1,id::todo,acc,r,h=>by
  unfold reach at h;split at h
  ·exact zC4 n _ _ _ h
  split at h
  ·obtain⟨t,ht⟩:=zC4 n _ _ _ h;exact⟨id::t,by rw[ht];simp⟩
  cases h
theorem Base.sub{w0 w:World}{γ:G}(hb:Base w0 γ w)(ids:List Nat):Base w0 (γ.sub ids) w :=
 ⟨hb.1,fun b hP=>⟨(hb.2 b hP).1,fun k hk=>by
  cases hid:ids[k]? with
  |none=>simp only[G.sub,hid] at hk;cases hk
  |some id=>exact(hb.2 b hP).2 id (by simpa only [G.sub,hid] using hk)⟩⟩
theorem Fr.sub(γ:G)(w:World)(ids:List Nat):Fr γ w (γ.sub ids) w :=
 ⟨Nat.le_refl _,fun _ _ _=>rfl,fun k b hk=>by
  cases hid:ids[k]? with
  |none=>simp only[G.sub,hid] at hk;cases hk
  |some id=>exact .inr ⟨id,by simpa only [G.sub,hid] using hk⟩,fun _ _ _ h=>.inl h,rfl,rfl⟩
def zEp {γ:G} {h h':Heap} {w:World} {m:Nat} {xs ys:List AV} (hr:HR γ (nth h) w) (hx:canon h m xs=some (ys,h')) :
  ∃ids,HR (γ.sub ids) (nth h') w∧Keep m γ (nth h) (γ.sub ids) (nth h')∧ys=renL (nth h) ids xs∧∀d x u,VR γ (nth h) x u→VR (γ.sub ids) (nth h') (ren (nth h) ids d x) u:=by
 unfold canon at hx;dsimp only at hx;split at hx
 ·cases hx
 rename_i ids mh;have mV:=zD1 _ _ _ _ mh (by rw[zMR];simp [List.nodup_range]);obtain⟨t,ht⟩:=zC4 _ _ _ _ mh;rw[zMR,List.append_nil] at ht;split at hx
 ·cases hx
 rename_i h1 hs;cases hx;have nK:∀k,k<m→ids[k]?=some k:=fun k hk=>by
  rw[ht,List.getElem?_append_left (by simpa using hk)];simp [hk]
 obtain⟨_,hZ⟩:=zCI hs;refine⟨ids,zUM hr hs mV,⟨fun id b hm hb hc=>?_,fun id hm hc=>?_⟩,rfl,fun d x u hv=>zCh hs d hv⟩
 ·have hi:=nK id hm;obtain⟨o,ho,hh⟩:=hZ _ _ hi;exact⟨by simp only[G.sub,hi];exact hb,(zAd ho (by rw[yP];exact hh:nth h' id=_)).1 hc⟩
 have hi:=nK id hm;obtain⟨o,ho,hh⟩:=hZ _ _ hi;cases rt:cur (nth h) id with
 |none=>exact absurd rt hc
 |some c=>rw[(zAd ho (by rw[yP];exact hh:nth h' id=_)).2.1 c rt];simp
def zJI{f:Nat→AV}(t:Nat):∀(ks:List Nat),get (ks.zip (ks.map f)) t=f t∨get (ks.zip (ks.map f)) t=.unk
 |[]=>.inr rfl
 |k::ks=>by
  simp only[List.map_cons,List.zip_cons_cons,get];cases hb:Nat.beq k t with
  |true=>have:=Nat.eq_of_beq_eq_true hb;subst this;exact .inl rfl
  |false=>exact zJI t ks
def zJX{f:Nat→AV}(t:Nat):∀ {ks:List Nat},t ∈ ks→get (ks.zip (ks.map f)) t=f t
 |[],h=>by cases h
 |k::ks,h=>by
  simp only[List.map_cons,List.zip_cons_cons,get];cases hb:Nat.beq k t with
  |true=>have:=Nat.eq_of_beq_eq_true hb;subst this;rfl
  |false =>
   have:=Nat.ne_of_beq_eq_false hb;rcases List.mem_cons.1 h with h|h
   ·exact absurd h.symm this
   exact zJX t h
def yA1{g:Look}{ids:List Nat}{d:Nat}{v:AV}(h:ren g ids d v=.nov):v=.nov:=by
 cases d with
 |zero=>cases h
 |succ d =>
  cases v with
  |nov=>rfl
  |box id off=>simp only[ren] at h;cases hm:mem id ids<;>rw[hm] at h<;>cases h
  |el id ver i off=>simp only[ren] at h;cases hm:(fresh g id ver&&mem id ids)<;>rw[hm] at h<;>cases h
  |hs id ver=>simp only[ren] at h;cases hm:(fresh g id ver&&mem id ids)<;>rw[hm] at h<;>cases h
  |hsub id ver lo len=>simp only[ren] at h;cases hm:(fresh g id ver&&mem id ids)<;>rw[hm] at h<;>cases h
  |mp id=>simp only[ren] at h;cases hm:mem id ids<;>rw[hm] at h<;>cases h
  |yld id=>simp only[ren] at h;cases hm:mem id ids<;>rw[hm] at h<;>cases h
  |_=>simp only[ren] at h;cases h
theorem DRel.ren {γ γ':G} {g g':Look} {w:World} {e:Nat} {ids:List Nat} {d:Nat} (hf:∀x u,VR γ g x u→VR γ' g' (Ab.ren g ids (d+1) x) u) (hβ:∀i b,γ'.β i=some b→∃j,γ.β j=some b) :
  ∀ {vs:List AV} {ds:List Deferred},DRel γ g w e vs ds→DRel γ' g' w e (vs.map (Ab.ren g ids (d+1))) ds
 |[],[],_=>trivial
 |v::vs,dd::ds,h=>by
  refine⟨?_,h.2.1,DRel.ren hf hβ h.2.2⟩;cases h.1 with
  |mark D h1 h2 h3=>exact .mark D h1 h2 fun id hid=>let ⟨j,hj⟩:=hβ id D hid;h3 j hj
  |call v d fv cap kc h1 h2=>exact .call _ _ fv cap (fun hh=>kc (yA1 hh)) h1 (hf _ _ h2)
 |[],_::_,h=>h.elim
 |_::_,[],h=>h.elim
theorem DR.ren {γ γ':G} {g g':Look} {w:World} {e:Nat} {ids:List Nat} (hf:∀d x u,VR γ g x u→VR γ' g' (Ab.ren g ids d x) u) (hβ:∀i b,γ'.β i=some b→∃j,γ.β j=some b)
  {v:AV} {ds:List Deferred} (h:DR γ g w e v ds):DR γ' g' w e (Ab.ren g ids depth v) ds:=by
 unfold DR at h;split at h
 ·exact h
 ·exact h
 ·exact DRel.ren (d:=3) (hf 4) hβ h
 exact h.elim
def Post(w0:World)(rr:Option Nat)(e k m:Nat)(γ:G)(g:Look)(w:World)(r:Ex)(st':St)(Q:Exit→Act→World→Prop):Prop :=
 ∀ γ' a' w',Inv w0 rr e k γ' st'.h st'.T a' w'→Fr γ w γ' w'→uU γ.imm γ'.imm→Keep m γ g γ' (nth st'.h)→match r with
  |.normal=>Q .normal a' w'
  |.exit id=>Q (.exit id) a' w'
  |.ret=>Q .ret a' w'
  |.pan v=>∀u,VR γ' (nth st'.h) v u→Q (.panic [{ v:=u,recovered:=false }]) a' w'
theorem Post.after {w0:World} {rr:Option Nat} {e k m:Nat} {γ γ1:G} {g g1:Look} {w w1:World} {r:Ex} {st':St} {Q:Exit→Act→World→Prop} (h:Post w0 rr e k m γ g w r st' Q)
  (f:Fr γ w γ1 w1) (i:uU γ.imm γ1.imm) (kp:Keep m γ g γ1 g1):Post w0 rr e k m γ1 g1 w1 r st' Q :=
 fun γ' a' w' h1 h2 h3 h4=>h γ' a' w' h1 (f.trans h2) (i.trans h3) (kp.trans h4)
theorem Keep.refl(m:Nat)(γ:G)(g:Look):Keep m γ g γ g:=⟨fun _ _ _ h h'=>⟨h,h'⟩,fun _ _ h=>h⟩
def zFt{p:Nat→Prop}(h:∃n,p n):∃n,p n∧∀m,p m→n≤m:=by
 obtain⟨n,hn⟩:=h
 induction n using Nat.strongRecOn with
 |_ n ih =>
  by_cases hh:∃m,m<n∧p m
  ·obtain⟨m,hm,hp⟩:=hh;exact ih m hm hp
  exact⟨n,hn,fun m hm=>Nat.le_of_not_lt fun hP=>hh ⟨m,hP,hm⟩⟩
def zCw(C:Cfg)(ρ:Oracle)(w0:World):Prop :=
 ∀(rr:Option Nat) (e k m:Nat) (id:Nat) (hA:Array Oper) (draw:Bool) (st:St) (r:Ex) (st':St) (γ:G) (a:Act) (w:World) (Q:Exit→Act→World→Prop),
  region C ρ k hA.toList draw st=some (r,st')→Inv w0 rr e k γ st.h st.T a w→Post w0 rr e k m γ (nth st.h) w r st' Q→(Code.region id hA draw).wpIn (Wd rr) 0 C.P Q a w
def zSN{k:Nat}{T:Env}{ks:List Nat}(h:get T k≠.unk):k ∈ zBY k T ks:=by
 unfold zBY;split
 ·rename_i hh;exact absurd hh h
 split
 ·rename_i hm;exact zDU.1 hm
 exact .head _
def zWa {w0:World} {rr:Option Nat} {e k m:Nat} {keep:Option (List Nat)} {st st':St} {γ:G} {a:Act} {w:World} (hx:tidy m k keep st=some st') (hi:Inv w0 rr e k γ st.h st.T a w) :
  ∃ γ',Inv w0 rr e k γ' st'.h st'.T a w∧Fr γ w γ' w∧uU γ.imm γ'.imm∧Keep m γ (nth st.h) γ' (nth st'.h):=by
 unfold tidy at hx;split at hx
 ·cases hx;exact⟨γ,hi,.refl _ _,.refl _,.refl _ _ _⟩
 rename_i ks;split at hx
 ·rename_i vs h hc;cases hx;obtain⟨ids,h1,h2,h3,h4⟩:=zEp hi.hr hc;have nL:get ((zBY k st.T ks).zip vs) k=ren (nth st.h) ids depth (get st.T k):=by
   rw[h3];unfold renL;rw[List.map_map]
   by_cases hu:get st.T k=.unk
   ·rcases zJI (f:=ren (nth st.h) ids depth ∘ get st.T) k (zBY k st.T ks) with h5|h5
    ·exact h5
    rw[h5,hu];rfl
   exact zJX (f:=ren (nth st.h) ids depth ∘ get st.T) k (zSN hu)
  refine⟨γ.sub ids,⟨h1,hi.base.sub ids,fun t=>?_,hi.sz,?_,hi.ew,fun hh=>?_⟩,.sub _ _ _,.refl _,h2⟩
  ·simp only;rw[h3];unfold renL;rw[List.map_map];rcases zJI (f:=ren (nth st.h) ids depth ∘ get st.T) t (zBY k st.T ks) with h5|h5
   ·rw[h5];exact(h4 _ _ _ (hi.er t))
   rw[h5];exact .unk _
  ·simp only;rw[nL];refine DR.ren (γ:=γ) (fun d x u hv=>h4 d x u hv) (fun i b hb=>?_) hi.nd;cases hid:ids[i]? with
   |none=>simp only[G.sub,hid] at hb;cases hb
   |some id=>exact⟨id,by simpa only [G.sub,hid] using hb⟩
  simp only;rw[nL,hi.ro hh];rfl
 cases hx
def zRy{F:Fence}{n:Nat}{P:Program}{Q:Exit→Act→World→Prop}{a:Act}{w:World}{c:Code}(h:c.wpIn F n P (Exit.noGoto Q) a w):(Code.scope c).wpIn F n P Q a w:=by
 intro b k cs qn hb hr;have s1:∀(a:Act) (w:World),step P (lone (b.atR a (.code (.scope c)::k)) cs w)=.next (lone (b.atR a (.code c::.inScope c::k)) cs w) :=
  fun a w=>step_lone_go (by simp [stepG,stepG.exec,Frame.atR])
 have s2:∀(a:Act) (w:World),step P (lone (b.atR a (.inScope c::k)) cs w)=.next (lone (b.atR a k) cs w) :=
  fun a w=>step_lone_go (by simp [stepG,stepG.exec,Frame.atR])
 have h0:(lone (b.atR a (.code (.scope c)::k)) cs w).fenced P F:=fenced_calm hb hr rfl;obtain⟨e,a₁,w₁,hq,k0⟩:=h b (.inScope c::k) cs qn hb hr;cases e with
 |normal=>exact⟨.normal,a₁,w₁,hq,.head h0 (s1 a w) (StepsIn.trans k0 (.one (fenced_calm hb hr rfl) (s2 a₁ w₁)))⟩
 |exit id =>
  have hx:exitTo id (.inScope c::k)=exitTo id k:=by simp [exitTo]
  exact⟨.exit id,a₁,w₁,hq,fun k' hk=>.head h0 (s1 a w) (k0.1 k' (by rw[hx];exact hk)),
   fun mb hk=>let ⟨k₁,h1,h2⟩:=k0.2 mb (by rw[hx];exact hk);⟨k₁,h1,.head h0 (s1 a w) h2⟩⟩
 |goto l=>exact hq.elim
 |ret=>exact⟨_,a₁,w₁,hq,.of_steps (.one h0 (s1 a w)) k0⟩
 |panic ch=>exact⟨_,a₁,w₁,hq,.of_steps (.one h0 (s1 a w)) k0⟩
 |outgrown=>exact⟨_,a₁,w₁,hq,.of_steps (.one h0 (s1 a w)) k0⟩
theorem HR.grow{γ:G}{g:Look}{w w':World}(h:HR γ g w)(hk:∀b,b<w.heap.size→w'.heap[b]?=w.heap[b]?):HR γ g w':=h.of_keep hk
def zSh{γ:G}{g:Look}{k:Nat}{keep:Option (List Nat)}{T T':Env}{a:Act}(h:ER γ g T a)(hx:zDT k keep T=some T'):ER γ g T' a:=by
 unfold zDT at hx;split at hx
 ·split at hx
  ·cases hx;exact h
  cases hx
 rename_i ks;split at hx
 ·cases hx
 cases hx;intro t;rcases zJI (f:=get T) t ks with h5|h5
 ·rw[h5];exact h t
 rw[h5];exact .unk _
def zKg {γ:G} {g:Look} {w:World} {id L:Nat} {c c':LoopC} {T T':List (Nat×AV)} {st st':Nat} {j j':Option Code} {r':Loop} (h:HR γ g w) (hb:γ.β id=some L) (hg:g id=some (.loop c T st j))
  (hl:LR γ g c' T' st' j' r') :
  Ext γ g γ (upd g [(id,.loop c' T' st' j')])∧HR γ (upd g [(id,.loop c' T' st' j')]) (w.putObj L (.loop r'))∧Fr γ w γ (w.putObj L (.loop r')):=by
 obtain⟨o,ho,ki⟩:=h.obj id L hb;rw[hg] at ho;cases ho;obtain⟨⟨r,h1,_⟩,h4⟩:=ki;have hP:=h.lt hb;have mM:cur (upd g [(id,.loop c' T' st' j')]) id=cur g id:=by unfold cur;rw[yS,if_pos rfl,hg]
 have nM:dims (upd g [(id,.loop c' T' st' j')]) id=dims g id:=by unfold dims;rw[yS,if_pos rfl,hg]
 have qo:∀j,cur (upd g [(id,.loop c' T' st' j')]) j=cur g j:=fun j=>by
  by_cases hj:j=id
  ·subst hj;exact mM
  exact jR hj
 have k6:∀j,dims (upd g [(id,.loop c' T' st' j')]) j=dims g j:=fun j=>by
  by_cases hj:j=id
  ·subst hj;exact nM
  exact zBx hj
 have e:Ext γ g γ (upd g [(id,.loop c' T' st' j')]):=⟨.refl _,fun j b hb me=>⟨hb,by rw[qo];exact me⟩,fun j c me=>⟨c,by rw[qo];exact me,Nat.le_refl _,fun _=>⟨rfl,rfl,k6 j⟩⟩⟩
 exact zE9 (w':=w.putObj L (.loop r')) h hb h4 mM nM (fun b' mH=>World.putObj_heap_other mH) World.putObj_size
  ⟨⟨r',World.putObj_heap_same hP,hl.mono e⟩,h4⟩
def arr3(us vs:List Value)(x:Value):us.toArray++#[x]++vs.toArray=(us++([x]++vs)).toArray:=by simp
set_option maxHeartbeats 1000000 in
def zR4 {C:Cfg} {w0:World} {rr:Option Nat} {e:Nat} {ρ:Oracle} (hρ:xX C.P w0 ρ) (hO:uM C w0) {m k:Nat} (keep:Nat→Option (List Nat)) {f:Operand} {ps:Array Tmp} {asg body:Code}
  {st st':St} {r:Ex} {γ:G} {a:Act} {w:World} {Q:Exit→Act→World→Prop} (hx:zED C ρ k keep f ps.toList asg body st=some (r,st')) (hi:Inv w0 rr e k γ st.h st.T a w)
  (hp:Post w0 rr e k m γ (nth st.h) w r st' Q):(Code.rangeFunc f ps asg body).wpIn (Wd rr) 0 C.P Q a w:=by
 unfold zED at hx;split at hx
 ·rename_i T' T1 ml kh;have k8:rr=none:=by
   cases ql:rr with
   |none=>rfl
   |some l =>
    have h1:rr.isSome=true:=by rw[ql];rfl
    unfold kM yK at kh;rw[hi.ro h1] at kh;cases kh
  subst k8;generalize rv:(Obj.loop ⟨k,kfOf keep,ps.toList,asg,body⟩ T' 0 none)=LO at hx;split at hx
  ·cases hx
  ·cases hx
  rename_i v p kv;split at hx
  ·rename_i c T2 b jump qp;split at hx
   ·cases hx
   rename_i na;refine wpIn_rangeFunc fun fn _=>?_
   obtain⟨rec,ma⟩:∃rec:Loop,rec={ state:=.ready,pending:=none,fn,tmps:=a.tmps,params:=ps,assign:=asg,body,defers:=w.heap.size }:=⟨_,rfl⟩
   let wa:=w.alloc (.deferred (some []))
   let w1:=wa.alloc (.loop rec)
   have rz:wa.heap.size=w.heap.size+1:=World.size_alloc _ _
   -- the two blocks
   have keepa:∀b,b<w.heap.size→wa.heap[b]?=w.heap[b]?:=fun b hb=>by
    show (w.heap.push _)[b]?=_
    rw[Array.getElem?_push,if_neg (by omega)]
   have rA:HR γ (nth st.h) wa:=hi.hr.grow keepa;have fra:Fr γ w γ wa:=⟨by rw[rz];omega,fun b hb _=>keepa b hb,fun id b hb=>.inr ⟨id,hb⟩,fun _ _ _ h=>.inl h,rfl,rfl⟩
   obtain⟨mN,mO⟩:=hi.hr.free (Nat.le_refl st.h.length);have rB:LR (γ.new st.h.length wa.heap.size 0) (upd (nth st.h) [(st.h.length,LO)]) ⟨k,kfOf keep,ps.toList,asg,body⟩ T' 0 none rec:=by
    have x0:=Ext.new (γ:=γ) (g:=nth st.h) wa.heap.size 0 LO mN mO;rw[ma];exact⟨rfl,rfl,rfl,hi.sz,rfl,rfl,fun t=>(zSh hi.er ml t).mono x0⟩
   obtain⟨x1,my,fr1⟩:=zCH (n:=0) (w':=w1) (o:=LO) (X:=.loop rec) mN mO rA rfl
    (by
      rw[← rv] at rB ⊢;exact⟨⟨rec,by show (wa.heap.push _)[wa.heap.size]?=_;rw[Array.getElem?_push,if_pos rfl],rB⟩,fun o=>jE rA o⟩)
   let γ1:=γ.new st.h.length wa.heap.size 0
   let g1:=upd (nth st.h) [(st.h.length,LO)]
   have f1:Fr γ w γ1 w1:=fra.trans fr1;have m8:Base w0 γ1 w1:=hi.base.mono f1;have rC:cur g1 st.h.length=none:=by show cur (upd (nth st.h) [(st.h.length,LO)]) _=_;unfold cur;rw[yS,if_pos rfl,← rv]
   have rD:γ1.β st.h.length=some (w.heap.size+1):=by show (γ.new _ _ _).β _=_;simp [G.new,rz]
   have n7:VR γ1 g1 (.yld st.h.length) (.func (.yield (w.heap.size+1)) #[] #[]):=.yld _ _ rD rC;have hD:w1.heap[w.heap.size]?=some (.deferred (some [])):=by
    show ((w.heap.push _).push _)[w.heap.size]?=_
    rw[Array.getElem?_push,if_neg (by simp),Array.getElem?_push,if_pos rfl]
   have mY:∀id,γ1.β id≠some w.heap.size:=fun id hid=>by
    have hid:(if id=st.h.length then some wa.heap.size else γ.β id)=some w.heap.size:=hid;split at hid
    ·have:=Option.some.inj hid;omega
    have:=hi.hr.lt hid;omega
   -- the call,and what comes of it
   have ku:=(yB hi.er f).mono x1;have hL:∀i o,st.h.length+1≤i→(i,o) ∈ p→γ1.β i=none∧g1 i=none:=fun i o ml _=>by
    obtain⟨h1,h2⟩:=hi.hr.free (i:=i) (by omega);refine⟨?_,?_⟩
    ·show (if i=st.h.length then some wa.heap.size else γ.β i)=none
     rw[if_neg (by omega)];exact h1
    show upd (nth st.h) [(st.h.length,LO)] i=none
    rw[yS,if_neg (by omega)];exact h2
   have behind:∀(f':FuncId) (us:List Value),Calls C.P f' us.toArray w1 (zOq γ1 g1 w1 p (.val v)) →
     CallsIn (Wd none) 0 C.P f' us.toArray w1 (rangePost (Wd none) 0 C.P (w.heap.size+1) Q { a with defers:=[{ target:=.collected w.heap.size,args:=#[] }]++a.defers }):=by
    intro f' us hc;refine zHj.2 (Calls.mono hc fun en w2 ⟨γ2,x2,mR,f2,n8⟩=>?_);cases en with
    |panicked c=>exact False.elim n8
    |outgrown=>exact False.elim n8
    |returned u =>
     obtain⟨rE,qo⟩:=x2.box _ _ rD rC;have same1:Same g1 (nth (patch st.h [(st.h.length,LO)])):=qN (Same.refl _);have same2:Same (upd g1 p) (nth (patch (patch st.h [(st.h.length,LO)]) p)):=qN same1;obtain⟨o,ho,ki⟩:=mR.obj _ _ rE;have mC:=same2.1 _ _ ho;rw[qp] at mC;cases mC;obtain⟨⟨rc,qq,mn⟩,nk⟩:=ki;have r6:rc.state≠.busy:=fun hh=>by
      have:=mn.st;rw[hh] at this;rw[← this] at na;exact absurd na (by decide)
     refine⟨rc.pending,_,run_endLoop qq r6,?_⟩;obtain⟨x3,n9,f3⟩:=zKg (r':={ rc with state:=.exhausted }) (c':=c) (T':=T2) (st':=3) (j':=jump) mR rE ho ⟨mn.ps,mn.asg,mn.body,mn.sz,rfl,mn.j,mn.er⟩;generalize hW:w2.putObj (w.heap.size+1) (.loop { rc with state:=.exhausted })=w3;rw[hW] at n9 f3;have same3:Same (upd (upd g1 p) [(st.h.length,.loop c T2 3 jump)]) (nth (patch (patch (patch st.h [(st.h.length,LO)]) p) [(st.h.length,.loop c T2 3 jump)])):=qN same2;have xx:Ext γ (nth st.h) γ2 (nth (patch (patch (patch st.h [(st.h.length,LO)]) p) [(st.h.length,.loop c T2 3 jump)])):=(x1.trans (x2.trans x3)).trans (same3.ext γ2);have ff:=f1.trans (f2.trans f3);have hC:Inv w0 none e k γ2 (patch (patch (patch st.h [(st.h.length,LO)]) p) [(st.h.length,.loop c T2 3 jump)]) T1 { a with defers:=[{ target:=.collected w.heap.size,args:=#[] }]++a.defers } w3:=by
      have h0:Inv w0 none e k γ2 (patch (patch (patch st.h [(st.h.length,LO)]) p) [(st.h.length,.loop c T2 3 jump)]) st.T a w3 :=
       ⟨n9.same same3,hi.base.mono ff,hi.er.mono xx,hi.sz,hi.nd.mono xx ff,Nat.le_trans hi.ew ff.size,fun hh=>by cases hh⟩
      refine h0.push kh ?_ (fun D hD d' mj k6=>by cases hD;exact absurd (hi.nd.lt d' mj _ k6) (Nat.lt_irrefl _));have h1:DOne γ1 g1 w1 e .nov { target:=.collected w.heap.size,args:=#[] }:=.mark _ hi.ew hD mY;exact h1.mono ((x2.trans x3).trans (same3.ext γ2)) (f2.trans f3)
     have qr:=xx.keep m;rw[mn.j];unfold zEC at hx;split at hx
     ·cases hx;exact hp γ2 _ _ hC ff xx.imm qr
     ·cases hx;exact wpIn_exit (hp γ2 _ _ hC ff xx.imm qr)
     ·cases hx;exact wpIn_ret (hp γ2 _ _ hC ff xx.imm qr)
     cases hx
   refine⟨w.heap.size+1,[{ target:=.collected w.heap.size,args:=#[] }],w1,?_⟩;have nN:(Instr.enterLoop fn a.tmps ps asg body none).run C.P w=.ok (w.heap.size+1,[{ target:=.collected w.heap.size,args:=#[] }]) w1:=by
    rw[run_enterLoop_outer,← ma]
   unfold zFI at kv;split at kv
   ·rename_i f' hH;rw[hH] at ku;have mS:a.eval f=.func (.func f') #[] #[]:=by
     generalize a.eval f=fv at ku;cases ku with
     |t _ _ ht=>cases ht;rfl
    have km:VRs γ1 g1 [.yld st.h.length] [.func (.yield (w.heap.size+1)) #[] #[]]:=.cons n7 .nil;obtain⟨hM,hc⟩:=zF7 hρ hO my m8 km kv hL;refine⟨{ target:=.fn (.func f') #[],args:=#[.func (.yield (w.heap.size+1)) #[] #[]] },w1,f',#[.func (.yield (w.heap.size+1)) #[] #[]],w1,nN,?_,fun _ _=>trivial,?_,fun h=>by simp [Fence.wide] at h,behind f' _ hc⟩
    ·simp only[resolve,mS,Deferred.ofValue];simp [Act.eval]
    simp only[invoke];rw[Array.append_empty];exact zDy hM
   ·rename_i f' first captured hH
    rw[hH] at ku;generalize mS:a.eval f=fv at ku;cases ku with
    |fn _ _ _ us vs hl mI h1 h2 =>
     have kd:VRs γ1 g1 first us:=⟨hl,h1⟩
     have mJ:VRs γ1 g1 captured vs:=⟨mI,h2⟩
     have km:VRs γ1 g1 (first++([.yld st.h.length]++captured)) (us++([.func (.yield (w.heap.size+1)) #[] #[]]++vs)):=kd.append ((VRs.cons n7 .nil).append mJ);obtain⟨hM,hc⟩:=zF7 hρ hO my m8 km kv hL;refine⟨{ target:=.fn (.func f') vs.toArray,args:=us.toArray++#[Value.func (.yield (w.heap.size+1)) #[] #[]] },w1,f',(us++([Value.func (.yield (w.heap.size+1)) #[] #[]]++vs)).toArray,w1,nN,?_,fun _ _=>trivial,?_,fun h=>by simp [Fence.wide] at h,behind f' _ hc⟩
     ·simp only[resolve,mS,Deferred.ofValue];simp [Act.eval]
     simp only[invoke];rw[arr3];exact zDy hM
   cases kv
  cases hx
 cases hx
def zFl {C:Cfg} {w0:World} {rr:Option Nat} {e:Nat} {ρ:Oracle} (hρ:xX C.P w0 ρ) (hO:uM C w0) (hX:zCw C ρ w0) (n m k:Nat) (keep:Nat→Option (List Nat)) :
  ∀(c:Code) (st:St) (r:Ex) (st':St) (γ:G) (a:Act) (w:World) (Q:Exit→Act→World→Prop),
   exec C ρ n m k keep c st=some (r,st')→Inv w0 rr e k γ st.h st.T a w→Post w0 rr e k m γ (nth st.h) w r st' Q→c.wpIn (Wd rr) 0 C.P Q a w:=by
 intro c
 induction c with
 |skip =>
  intro st r st' γ a w Q hx hi hp;simp only[exec,Option.some.injEq,Prod.mk.injEq] at hx;obtain⟨rfl,rfl⟩:=hx;exact wpIn_skip (hp γ a w hi (.refl _ _) (.refl _) (.refl _ _ _))
 |region id hA draw =>
  intro st r st' γ a w Q hx hi hp;exact hX rr e k m id hA draw st r st' γ a w Q hx hi hp
 |seq x y ihx ihy =>
  intro st r st' γ a w Q hx hi hp;unfold exec at hx;split at hx
  ·rename_i st1 h1;refine wpIn_seq (ihx st .normal st1 γ a w _ h1 hi fun γ1 a1 w1 i1 f1 m1 k1=>?_);exact ihy st1 r st' γ1 a1 w1 Q hx i1 (hp.after f1 m1 k1)
  rename_i r1 kc;refine wpIn_seq (ihx st r st' γ a w _ hx hi fun γ1 a1 w1 i1 f1 m1 k1=>?_);have:=hp γ1 a1 w1 i1 f1 m1 k1;cases r with
  |normal=>exact absurd hx (kc st')
  |exit id=>exact this
  |ret=>exact this
  |pan v=>exact this
 |cond c x y ihx ihy =>
  intro st r st' γ a w Q hx hi hp;unfold exec at hx;have hc:=yB hi.er c;split at hx
  ·rename_i hH;rw[hH] at hc;have:a.eval c=.bool true:=by
    generalize a.eval c=cv at hc;cases hc with
    |t _ _ ht=>cases ht;rfl
   exact wpIn_cond_true this (ihx st r st' γ a w Q hx hi hp)
  ·rename_i hH;rw[hH] at hc;have:a.eval c=.bool false:=by
    generalize a.eval c=cv at hc;cases hc with
    |t _ _ ht=>cases ht;rfl
   exact wpIn_cond_false this (ihy st r st' γ a w Q hx hi hp)
  cases hx
 |block id b ih =>
  intro st r st' γ a w Q hx hi hp;unfold exec at hx;split at hx
  ·rename_i id' st1 h1;refine wpIn_block (ih st (.exit id') st1 γ a w _ h1 hi fun γ1 a1 w1 i1 f1 m1 k1=>?_);simp only[Exit.inBlock];split at hx
   ·rename_i he;cases hx;rw[if_pos he];exact hp γ1 a1 w1 i1 f1 m1 k1
   rename_i he;cases hx;rw[if_neg he];exact hp γ1 a1 w1 i1 f1 m1 k1
  rename_i r1 kc;refine wpIn_block (ih st r st' γ a w _ hx hi fun γ1 a1 w1 i1 f1 m1 k1=>?_);have:=hp γ1 a1 w1 i1 f1 m1 k1;cases r with
  |normal=>exact this
  |exit id=>exact absurd hx (kc id st')
  |ret=>exact this
  |pan v=>exact this
 |loop b ih =>
  intro st r st' γ a w Q hx hi hp;unfold exec at hx;have qs:∃ks,iter (tidy m k ks) (exec C ρ n m k keep b) n st=some (r,st'):=⟨_,hx⟩
  obtain⟨ks,hx⟩:=qs
  let R:Nat→Act→World→Prop:=fun f a w=>∃st2 γ2,iter (tidy m k ks) (exec C ρ n m k keep b) f st2=some (r,st')∧Inv w0 rr e k γ2 st2.h st2.T a w∧Post w0 rr e k m γ2 (nth st2.h) w r st' Q
  have hR:R n a w:=⟨st,γ,hx,hi,hp⟩
  let μ:Act→World→Nat:=fun a w=>open Classical in if h:∃f,R f a w then Classical.choose (zFt h) else 0
  have hμ:∀a w f,R f a w→R (μ a w) a w∧μ a w≤f:=fun a w f h=>by
   have kw:∃f,R f a w:=⟨f,h⟩
   have hs:=Classical.choose_spec (zFt kw);have he:μ a w=Classical.choose (zFt kw):=dif_pos kw;rw[he];exact⟨hs.1,hs.2 f h⟩
  refine wpIn_loop (fun a w=>∃f,R f a w) μ ⟨n,hR⟩ fun a w ⟨f0,r7⟩=>?_
  obtain⟨⟨st2,γ2,h1,h2,h3⟩,_⟩:=hμ a w f0 r7;cases hf:μ a w with
  |zero=>rw[hf] at h1;simp [iter] at h1
  |succ f =>
   rw[hf] at h1;unfold iter at h1;split at h1
   ·cases h1
   rename_i st3 nO;obtain⟨γ3,i3,f3,m3,k3⟩:=zWa nO h2;have h4:=h3.after f3 m3 k3;split at h1
   ·rename_i st4 hb;refine ih st3 .normal st4 γ3 a w _ hb i3 fun γ5 a5 w5 i5 f5 m5 k5=>?_
    have rF:R f a5 w5:=⟨st4,γ5,h1,i5,h4.after f5 m5 k5⟩
    exact⟨⟨f,rF⟩,Nat.lt_succ_of_le (hμ a5 w5 f rF).2⟩
   rename_i r1 kc;refine ih st3 r st' γ3 a w _ h1 i3 fun γ5 a5 w5 i5 f5 m5 k5=>?_
   have:=h4 γ5 a5 w5 i5 f5 m5 k5;cases r with
   |normal=>exact absurd h1 (kc st')
   |exit id=>exact this
   |ret=>exact this
   |pan v=>exact this
 |rangeFunc f ps x y ihx ihy =>
  intro st r st' γ a w Q hx hi hp;unfold exec at hx;exact zR4 hρ hO keep hx hi hp
 |exit id =>
  intro st r st' γ a w Q hx hi hp;simp only[exec,Option.some.injEq,Prod.mk.injEq] at hx;obtain⟨rfl,rfl⟩:=hx;exact wpIn_exit (hp γ a w hi (.refl _ _) (.refl _) (.refl _ _ _))
 |scope b ih =>
  intro st r st' γ a w Q hx hi hp;unfold exec at hx;refine zRy (ih st r st' γ a w _ hx hi fun γ1 a1 w1 i1 f1 m1 k1=>?_);have:=hp γ1 a1 w1 i1 f1 m1 k1;cases r with
  |normal=>exact this
  |exit id=>exact this
  |ret=>exact this
  |pan v=>exact this
 |label l =>
  intro st r st' γ a w Q hx hi hp;simp only[exec,Option.some.injEq,Prod.mk.injEq] at hx;obtain⟨rfl,rfl⟩:=hx;exact wpIn_label (hp γ a w hi (.refl _ _) (.refl _) (.refl _ _ _))
 |goto l=>intro st r st' γ a w Q hx;simp [exec] at hx
 |ret =>
  intro st r st' γ a w Q hx hi hp;simp only[exec,Option.some.injEq,Prod.mk.injEq] at hx;obtain⟨rfl,rfl⟩:=hx;exact wpIn_ret (hp γ a w hi (.refl _ _) (.refl _) (.refl _ _ _))
 |refuse s=>intro st r st' γ a w Q hx;simp [exec] at hx
def zWQ {P:Program} {γ:G} {g:Look} {w:World} {t:TypeId} {a v:AV} {u:Value} (h:HR γ g w) (hv:VR γ g a u) (hx:load P g t a=some v) :
  ∃ad r,u=.pointer (some ad)∧(loadVar t ad).run P w=.ok r w∧VR γ g v r:=by
 unfold load at hx;split at hx
 ·rename_i nn;split at hx
  ·rename_i n hn;split at hx
   ·rename_i cs qt;cases hx;obtain⟨b,o,vs,rfl,hl,km,hc⟩:=zDb h qt hv;have ke:=run_loadCells_list (P:=P) w ⟨b,o,none⟩ vs (fun j x hj=>by rw[vR];exact hc j x hj);rw[hl] at ke;refine⟨_,.agg vs.toArray,rfl,?_,.mkAgg km⟩;simp only[loadVar,Sem.run_bind,Sem.run_pure,Result.andThen_ok,zCV nn,if_true,vQ hn,ke]
   cases hx
  cases hx
 ·rename_i nn;split at hx
  ·rename_i v' qt;cases hx;obtain⟨b,o,vs,rfl,hl,km,hc⟩:=zDb h qt hv;obtain⟨v0,vs',rfl,h0,_⟩:=km.cases_cons;have mQ:=hc 0 v0 rfl;simp only[Nat.add_zero] at mQ;have r8:(Go.load ⟨b,o,none⟩).run P w=.ok v0 w:=by rw[run_load];simp [mQ]
   refine⟨_,v0,rfl,?_,h0⟩;simp only[loadVar,Sem.run_bind,Result.andThen_ok,zCV nn,Bool.false_eq_true,if_false,r8]
  cases hx
 cases hx
def zGh(tmps:Array Value):ResultVar→Sem Value
 |.tmp t=>pure (tmps.getD t undef)
 |.cell a t=>do loadVar t (← asAddr (tmps.getD a undef))
def zEF {P:Program} {γ:G} {st:St} {a:Act} {w:World} (hr:HR γ (nth st.h) w) (he:ER γ (nth st.h) st.T a) :
  ∀ {rs:List ResultVar} {vs:List AV},qC P st rs=some vs→∃us,(rs.mapM (zGh a.tmps)).run P w=.ok us w∧VRs γ (nth st.h) vs us
 |[],vs,h=>by
  simp only[qC,Option.some.injEq] at h;subst h;exact⟨[],by simp,.nil⟩
 |r::rs,vs,h=>by
  unfold qC at h;split at h
  ·cases h
  rename_i v hv;split at h
  ·cases h
  rename_i vs' km;cases h;obtain⟨us,h1,h2⟩:=zEF hr he km;have h0:∃u,(zGh a.tmps r).run P w=.ok u w∧VR γ (nth st.h) v u:=by
   unfold zAZ at hv;split at hv
   ·cases hv;exact⟨_,rfl,he _⟩
   obtain⟨ad,u,e1,e2,e3⟩:=zWQ hr (he _) hv;refine⟨u,?_,e3⟩;simp only[zGh,e1,asAddr,Sem.run_bind,Sem.run_pure,Result.andThen_ok,e2]
  obtain⟨u,h3,h4⟩:=h0;refine⟨u::us,?_,.cons h4 h2⟩;rw[List.mapM_cons];simp only[Sem.run_bind,h3,h1,Result.andThen_ok,Sem.run_pure]
def zSB(fn:Func)(tmps:Array Value):Go.results fn tmps=(do
  let vs ← fn.results.mapM (zGh tmps)
  pure (if h:vs.size=1 then vs[0] else .tuple vs)):=by
 unfold Go.results
 congr 1
def zGq {P:Program} {γ:G} {st:St} {a:Act} {w:World} {fn:Func} {v:AV} (hr:HR γ (nth st.h) w) (he:ER γ (nth st.h) st.T a) (hx:results P fn st=some v) :
  ∃u,(Go.results fn a.tmps).run P w=.ok u w∧VR γ (nth st.h) v u:=by
 rw[zSB,Array.mapM_eq_mapM_toList];unfold results at hx;split at hx
 ·rename_i v' km;cases hx;obtain⟨us,h1,h2⟩:=zEF (P:=P) hr he km;obtain⟨u,us',rfl,h3,h4⟩:=h2.cases_cons;have:=h4.nil_inv;subst this;exact⟨u,by simp [h1],h3⟩
 ·rename_i vs kc km;cases hx;obtain⟨us,h1,h2⟩:=zEF (P:=P) hr he km;refine⟨.tuple us.toArray,?_,.tup vs us h2.1 h2.2⟩;have hl:us.length≠1:=fun hl=>by
   rw[← h2.1] at hl
   match vs,hl with
   |[x],_=>exact kc x rfl
  simp [h1,hl]
 cases hx
def zK7{γ:G}{g g':Look}{w:World}(hr:HR γ g' w):∀ {xs:List AV} {vs:List Value},
  (∀x ∈ xs,∀id ∈ yO g x,∀s ver frz es,g id=some (.arr s ver frz es)→g' id=some (.arr s ver true es))→VRs γ g' xs vs→VRs γ g' (xs.map (view g)) vs
 |[],vs,_,hv=>by rw[hv.nil_inv];exact .nil
 |x::xs,vs,hp,hv=>by
  obtain⟨v,vs',rfl,hx,nE⟩:=hv.cases_cons;exact .cons (zGU hr (hp x (.head _)) hx) (zK7 hr (fun y hy=>hp y (List.mem_cons_of_mem _ hy)) nE)
def zRY {γ:G} {g g':Look} {w:World} {v:AV} {u:Value} (hr:HR γ g' w) (hp:∀id ∈ uX g v,∀s ver frz es,g id=some (.arr s ver frz es)→g' id=some (.arr s ver true es))
  (hv:VR γ g' v u):VR γ g' (kR g v) u:=by
 unfold kR;split
 ·rename_i vs;cases hv with
  |tup _ us hl h =>
   have hh:VRs γ g' vs us:=⟨hl,h⟩
   have:=zK7 (g:=g) hr (fun x hx id hid=>hp id (by unfold uX;exact wD.2 ⟨x,hx,hid⟩)) hh;exact .tup _ us this.1 this.2
 rename_i kc;refine zGU hr (fun id hid=>hp id ?_) hv;unfold uX;split
 ·rename_i vs;exact absurd rfl (kc vs)
 exact hid
def zOW{g:Look}{ids:List Nat}{x y:AV}(h:[y]=renL g ids [x]):y=ren g ids depth x:=by
 simpa [renL] using h
def zEN {C:Cfg} {f:FuncId} {m:Nat} {v v':AV} {h h':Heap} {γ:G} {w:World} {u:Value} (hr:HR γ (nth h) w) (hv:VR γ (nth h) v u) (hx:yW C f m v h=some (v',h')) :
  ∃ γ',HR γ' (nth h') w∧Fr γ w γ' w∧uU γ.imm γ'.imm∧Keep m γ (nth h) γ' (nth h')∧VR γ' (nth h') v' u:=by
 unfold yW at hx;split at hx
 ·split at hx
  ·rename_i y h1 hc;cases hx;obtain⟨ids,h1,h2,h3,h4⟩:=zEp hr hc;refine⟨_,h1,.sub _ _ _,.refl _,h2,?_⟩;rw[zOW h3];exact h4 depth _ _ hv
  cases hx
 split at hx
 ·rename_i y h1 hc;cases hx;obtain⟨γ1,e1,my,f1,_⟩:=zDk hr (vW (nth h) (uX (nth h) v));have hs:=qN (p:=xF (nth h) (uX (nth h) v)) (Same.refl (nth h));have e2:=hs.ext γ1;have n4:VR γ1 (upd (nth h) (xF (nth h) (uX (nth h) v))) (kR (nth h) v) u :=
   zRY my (fun id hid s ver frz es hg=>(vW (nth h) _).upd_eq hg ⟨_,zDq hg hid⟩) (hv.mono e1)
  obtain⟨ids,h1,h2,h3,h4⟩:=zEp (my.same hs) hc;refine⟨_,h1,f1.trans (.sub _ _ _),e1.imm,((e1.trans e2).keep m).trans h2,?_⟩;rw[zOW h3];exact h4 depth _ _ (n4.mono e2)
 cases hx
def zIU(t:Nat):∀(l:List AV) (i:Nat),get (zT i l) t=if i≤t then (l[t - i]?).getD .unk else .unk
 |[],i=>by simp [zT,get]
 |v::l,i=>by
  simp only[zT,get];cases hb:Nat.beq i t with
  |true=>have:=Nat.eq_of_beq_eq_true hb;subst this;simp
  |false =>
   have:=Nat.ne_of_beq_eq_false hb;simp only;rw[zIU t l (i+1)]
   by_cases h1:i+1≤t
   ·have:t - i=(t - (i+1))+1:=by omega
    rw[if_pos h1,if_pos (by omega),this,List.getElem?_cons_succ]
   rw[if_neg h1,if_neg (by omega)]
def zPV {w0 w:World} {γ:G} {h:Heap} {args:List AV} {vs:List Value} {n:Nat} (hn:args.length≤n) (hr:HR γ (nth h) w) (hb:Base w0 γ w) (hv:VRs γ (nth h) args vs) :
  Inv w0 none w.heap.size n γ h (zT 0 args) { tmps:=vs.toArray++Array.replicate (n - vs.toArray.size) undef,defers:=[] } w:=by
 have hk:get (zT 0 args) n=.unk:=by
  rw[zIU];simp only[Nat.zero_le,if_true,Nat.sub_zero];rw[List.getElem?_eq_none hn];rfl
 refine⟨hr,hb,fun t=>?_,by simp;omega,by rw[hk];exact rfl,Nat.le_refl _,fun hh=>by cases hh⟩;rw[zIU];simp only[Nat.zero_le,if_true,Nat.sub_zero];cases hx:args[t]? with
 |none=>exact .unk _
 |some x =>
  have hP:=zQ hx;have no:t<vs.length:=by rw[← hv.1];exact hP
  have r9:vs[t]?=some vs[t]:=List.getElem?_eq_getElem no;have:(vs.toArray++Array.replicate (n - vs.toArray.size) undef).getD t undef=vs[t]:=by
   rw[Array.getD_eq_getD_getElem?,Array.getElem?_append_left (by simpa using no)];simp [no]
  rw[this];exact hv.2 t x _ hx r9
def MR(I:Imm):Pn→FrameMode→Prop
 |none,m=>m=.returning
 |some (x,b),m=>∃u,TR I x u∧m=.panicking [{ v:=u,recovered:=b }]
theorem MR.mono{I J:Imm}(qu:uU I J){u:Pn}{m:FrameMode}(h:MR I u m):MR J u m:=by
 match u,h with
 |none,h=>exact h
 |some (x,b),⟨v,h1,h2⟩=>exact⟨v,h1.mono qu,h2⟩
theorem MR.value{γ:G}{g:Look}{u:Pn}{m:FrameMode}(h:MR γ.imm u m):∃v,VR γ g (pnAV u) v∧zE1 v=m:=by
 match u,h with
 |none,h=>exact⟨.pointer none,.t _ _ .nilptr,h.symm⟩
 |some (x,b),⟨v,h1,h2⟩=>exact⟨.agg #[v,.bool b],.agg _ [v,.bool b] rfl (VRs.cons (.t _ _ h1) (VRs.cons (.t _ _ (.bool b)) .nil)).2,h2.symm⟩
theorem MR.of_value{γ:G}{g:Look}{a:AV}{u:Pn}{v:Value}(ha:avPn a=some u)(h:VR γ g a v):MR γ.imm u (zE1 v):=by
 unfold avPn at ha;split at ha
 ·cases ha;have:=h.of_tree;cases this;rfl
 ·cases ha;cases h with
  |agg cs vs hl hh =>
   match vs,hl with
   |[x,y],_ =>
    have h0:=hh 0 _ x rfl rfl;have h1:=(hh 1 _ y rfl rfl).of_tree;cases h1;exact⟨x,h0.of_tree,rfl⟩
 cases ha
theorem MR.settle{I:Imm}{u:Pn}{m:FrameMode}(h:MR I u m):MR I (zCY u) (Go.settle m):=by
 match u,h with
 |none,h=>rw[show m=.returning from h];rfl
 |some (x,true),⟨v,h1,h2⟩=>rw[h2];rfl
 |some (x,false),⟨v,h1,h2⟩=>rw[h2];exact⟨v,h1,rfl⟩
abbrev Done (γ0:G) (g0:Look) (wE:World) (m:Nat) (h':Heap) (hI:Out):Ending→World→Prop :=
 fun e w'=>∃ γ',HR γ' (nth h') w'∧Fr γ0 wE γ' w'∧uU γ0.imm γ'.imm∧Keep m γ0 g0 γ' (nth h')∧Ends γ' (nth h') hI e
def zWV{g s:Nat}(hs:s≤xG)(hg:g<s):¬ (xG+g<s)∧xG+g≠vL∧xG+g - xG=g:=by
 unfold xG vL at *;omega
theorem DRel.keep{γ:G}{g:Look}{w w':World}{e:Nat}:∀ {vs:List AV} {ds:List Deferred},(∀d ∈ ds,∀D,d.target=.collected D→w'.heap[D]?=w.heap[D]?)→DRel γ g w e vs ds→DRel γ g w' e vs ds
 |[],[],_,_=>trivial
 |v::vs,d0::ds,hk,h=>by
  refine⟨?_,h.2.1,DRel.keep (fun d hd=>hk d (List.mem_cons_of_mem _ hd)) h.2.2⟩;cases h.1 with
  |mark D h1 h2 h3=>exact .mark D h1 (by rw[hk _ (.head _) D rfl];exact h2) h3
  |call _ _ fv cap kc h1 h2=>exact .call _ _ fv cap kc h1 h2
 |[],_::_,_,h=>h.elim
 |_::_,[],_,h=>h.elim
def zF1 {C:Cfg} {w0:World} {ρ:Oracle} (hρ:xX C.P w0 ρ) (hO:uM C w0) {f:FuncId} {fn:Func} {m e:Nat} {hI:Out} {h':Heap} {γ0:G} {g0:Look} {wE:World} {a:Act} (he:wE.heap.size≤e) (nP:w0.heap.size≤wE.heap.size) :
  ∀(ds:List AV) (dl:List Deferred) (u:Pn) (md:FrameMode) (T:Env) (h:Heap) (γ:G) (w:World),leave C ρ f fn m ds u T h=some (hI,h')→HR γ (nth h) w→Base w0 γ w→ER γ (nth h) T a →
   DRel γ (nth h) w e ds dl→MR γ.imm u md→Fr γ0 wE γ w→uU γ0.imm γ.imm→Keep m γ0 g0 γ (nth h) →
   LeavesInM (Wd none) 0 C.P fn a.tmps (Done γ0 g0 wE m h' hI) dl md w
 |[],dl,u,md,T,h,γ,w,hx,hr,hb,mo,hd,hm,fr,im,kp=>by
  have qv:dl=[]:=by cases dl with
   |nil=>rfl
   |cons d ds=>exact hd.elim
  subst qv
  match u,hm with
  |none,hm =>
   rw[show md=.returning from hm];unfold leave at hx;split at hx
   ·cases hx
   rename_i v hv;split at hx
   ·rename_i v2 h2 mq;cases hx;obtain⟨uv,qw,nQ⟩:=zGq (st:=⟨T,h⟩) hr mo hv;obtain⟨γ2,k1,k2,k3,k4,k5⟩:=zEN hr nQ mq;exact⟨uv,qw,γ2,k1,fr.trans k2,im.trans k3,kp.trans k4,k5⟩
   cases hx
  |some (x,false),⟨uv,h1,h2⟩ =>
   rw[h2];unfold leave at hx;split at hx
   ·rename_i v2 nC mq;cases hx;obtain⟨γ2,k1,k2,k3,k4,k5⟩:=zEN hr (.t x uv h1) mq;exact⟨γ2,k1,fr.trans k2,im.trans k3,kp.trans k4,uv,rfl,k5⟩
   cases hx
  |some (x,true),_=>simp [leave] at hx
 |v::ds,dl,u,md,T,h,γ,w,hx,hr,hb,mo,hd,hm,fr,im,kp=>by
  cases dl with
  |nil=>exact hd.elim
  |cons d dl =>
   obtain⟨mE,mL,k6⟩:=hd;have ke:md≠.run:=by
    match u,hm with
    |none,hm=>rw[show md=.returning from hm];simp
    |some (x,b),⟨uv,h1,h2⟩=>rw[h2];simp
   refine⟨ke,?_⟩;cases mE with
   |mark D h1 h2 h3 =>
    -- a loop over a function's mark: nothing waits there
    have hx:leave C ρ f fn m ds u T h=some (hI,h'):=by
     rw[← hx];rw[leave]
    refine .inl ⟨D,_,rfl,run_takeDeferred h2,?_⟩;have sa:=zJs h2;have hk:∀b,b≠D→(w.putObj D (.deferred none)).heap[b]?=w.heap[b]?:=fun b mH=>World.putObj_heap_other mH
    have mb:HR γ (nth h) (w.putObj D (.deferred none)):=by
     refine⟨fun id b mc=>?_,hr.inj,fun b o v hv=>?_⟩
     ·obtain⟨o,ho,ki⟩:=hr.obj id b mc;exact⟨o,ho,ki.mono (.refl _ _) (hk b fun hh=>h3 id (hh ▸ mc)) rfl (fun _=>rfl)⟩
     have hc:=hr.imm b o v hv;have qx:b≠D:=fun hh=>by
      subst hh;unfold World.cell? at hc;rw[h2] at hc;cases hc
     rw[kX (hk b qx)];exact hc
    have f1:Fr γ0 wE γ (w.putObj D (.deferred none)):=by
     refine⟨by rw[World.putObj_size];exact fr.size,fun b mH hn=>?_,fr.rng,fr.immr,fr.same⟩;rw[hk b (by omega)];exact fr.keep b mH hn
    have mH:Base w0 γ (w.putObj D (.deferred none)):=by
     refine⟨by rw[World.putObj_size];exact hb.1,fun b hP=>⟨?_,(hb.2 b hP).2⟩⟩
     by_cases qx:b=D
     ·omega
     rw[hk b qx];exact(hb.2 b hP).1
    refine zF1 hρ hO he nP ds dl u md T h γ _ hx mb mH mo ?_ hm f1 im kp;exact k6.keep fun d' mj D' mf=>hk D' fun hh=>mL D rfl d' mj (hh ▸ mf)
   |call v d fv cap kc h1 h2 =>
    obtain⟨tg,da⟩:=d;cases v with
    |nov=>exact absurd rfl kc
    |fn g first captured =>
     rw[leave] at hx;split at hx
     ·rename_i hM;cases h2 with
      |fn _ _ _ us vs hl mI h3 h4 =>
      have kd:VRs γ (nth h) first us:=⟨hl,h3⟩
      have mJ:VRs γ (nth h) captured vs:=⟨mI,h4⟩
      obtain⟨pv,qy,mP⟩:=MR.value (γ:=γ) (g:=nth h) hm;have km:VRs γ (nth h) (pnAV u::(first++captured)) (pv::(us++vs)):=.cons qy (kd.append mJ);split at hx
      ·rename_i v p kv;have mT:=zEX (γ1:=γ) (frz:=[]) hρ hr hb (.refl _ _) hr (.refl _ _) km kv (fun i o hi _=>hr.free hi);have mg:=hO.1;have qz:=zHm hM;unfold CK at mT;obtain⟨q1,q2,q3⟩:=zWV mg qz;rw[if_neg q1,if_neg q2] at mT;obtain⟨pu,ps,epu,mT⟩:=mT;cases epu;rw[q3] at mT;split at hx
       ·rename_i u2 nQ;refine .inr ⟨fun hh=>by simp [Fence.wide] at hh,.func g,vs.toArray,g,(us++vs).toArray,h1,?_,fun _ _=>trivial,?_⟩
        ·dsimp only at h1;rw[h1];simp only[invoke];rw[List.append_toArray];exact zDy hM
        rw[← mP];refine CallsDIn.mono mT fun en mm w' ⟨x,ex,vv,mF,γ2,x2,mR,f2,n8⟩=>?_
        subst ex;have hs:=qN (p:=p) (Same.refl (nth h));have xx:=x2.trans (hs.ext γ2);have q0:=MR.of_value nQ n8
        show LeavesInM _ _ _ _ _ _ _ (settle mm) _
        rw[mF];exact zF1 hρ hO he nP ds dl u2 (zE1 vv) T _ γ2 w' hx (mR.same hs) (hb.mono f2) (mo.mono xx) (k6.mono xx f2) q0 (fr.trans f2) (im.trans xx.imm) (kp.trans (xx.keep m))
       cases hx
      cases hx
     cases hx
    |_=>cases u<;>simp [leave] at hx
def zMj(w0:World)(e k m:Nat)(γ:G)(g:Look)(w:World)(r:Ex)(st':St)(u':Pn)(c₀:Frame)(cs:List Frame)(Q:Exit→Act→List Frame→World→Prop):Prop :=
 ∀ γ' a' w' md',Inv w0 none e k γ' st'.h st'.T a' w'→MR γ'.imm u' md'→Fr γ w γ' w'→uU γ.imm γ'.imm→Keep m γ g γ' (nth st'.h)→match r with
  |.normal=>Q .normal a' ({ c₀ with mode:=md' }::cs) w'
  |.exit id=>Q (.exit id) a' ({ c₀ with mode:=md' }::cs) w'
  |.ret=>Q .ret a' ({ c₀ with mode:=md' }::cs) w'
  |.pan v=>∀x,VR γ' (nth st'.h) v x→Q (.panic [{ v:=x,recovered:=false }]) a' ({ c₀ with mode:=md' }::cs) w'
theorem zMj.after {w0:World} {e k m:Nat} {γ γ1:G} {g g1:Look} {w w1:World} {r:Ex} {st':St} {u':Pn} {c₀:Frame} {cs:List Frame} {Q:Exit→Act→List Frame→World→Prop}
  (h:zMj w0 e k m γ g w r st' u' c₀ cs Q) (f:Fr γ w γ1 w1) (i:uU γ.imm γ1.imm) (kp:Keep m γ g γ1 g1):zMj w0 e k m γ1 g1 w1 r st' u' c₀ cs Q :=
 fun γ' a' w' md' h1 h2 h3 h4 h5=>h γ' a' w' md' h1 h2 (f.trans h3) (i.trans h4) (kp.trans h5)
def zVQ {P:Program} {o:Oper} (h:zJc o.op=true) (ev:Operand→Value) (w:World) :
  (∃v w',(execOp ev o).run P w=.ok (.value v) w')∨∃x w',(execOp ev o).run P w=.halt x w':=by
 have key:∀s:Sem Value,(∃v w',(do pure (Next.value (← s)):Sem Next).run P w=.ok (.value v) w')∨∃x w',(do pure (Next.value (← s)):Sem Next).run P w=.halt x w':=fun s=>by
  rw[Sem.run_bind];cases s.run P w with
  |ok v w'=>exact .inl ⟨v,w',rfl⟩
  |halt x w'=>exact .inr ⟨x,w',rfl⟩
 unfold zJc at h;unfold execOp;split at h<;>rename_i hH<;>simp only[hH]<;>first|exact .inl ⟨_,_,rfl⟩|exact key _|cases h
def zD7 {C:Cfg} {w0:World} {ρ:Oracle} (hρ:xX C.P w0 ρ) (hO:uM C w0) {hA:Array Oper} {e k:Nat} {c₀:Frame} {cs:List Frame} {Q:Exit→Act→List Frame→World→Prop} :
  ∀(hE:List Oper) (i:Nat),hA.toList.drop i=hE→∀(T:Env) (h:Heap) (u:Pn) (γ:G) (a:Act) (w:World) (md:FrameMode) (T':Env) (h':Heap) (u':Pn),
   qB C ρ hA.toList hE T h u=some (T',h',u')→Inv w0 none e k γ h T a w→MR γ.imm u md→uQ k hE=true →
   (∀ γ' a' w' md',Inv w0 none e k γ' h' T' a' w'→MR γ'.imm u' md'→Fr γ w γ' w'→Ext γ (nth h) γ' (nth h')→Q .normal a' ({ c₀ with mode:=md' }::cs) w') →
   wpOpsSIn (Wd none) 0 C.P hA Q (List.range' i hE.length) a ({ c₀ with mode:=md }::cs) w
 |[],i,hi,T,h,u,γ,a,w,md,T',h',u',hx,hC,hm,hd,hV=>by
  simp only[qB,Option.some.injEq,Prod.mk.injEq] at hx;obtain⟨rfl,rfl,rfl⟩:=hx;simp only[List.length_nil,List.range'_zero,wpOpsSIn];exact hV γ a w md hC hm (.refl _ _) (.refl _ _)
 |o::hE,i,hi,T,h,u,γ,a,w,md,T',h',u',hx,hC,hm,hd,hV=>by
  obtain⟨mE,k6⟩:=zEM hd;have qk:hA[i]?=some o:=by
   have:(hA.toList.drop i)[0]?=some o:=by rw[hi];rfl
   rw[List.getElem?_drop] at this
   simpa using this
  have h9:hA.toList.drop (i+1)=hE:=by
   rw[← List.tail_drop,hi];rfl
  simp only[List.length_cons,List.range'_succ,wpOpsSIn,qk];refine⟨fun _ _=>trivial,?_⟩;unfold qB at hx;split at hx
  ·cases hx
  ·rename_i hw;rw[zCK hC.er hw];simp only[Bool.false_eq_true,if_false];exact zD7 hρ hO hE (i+1) h9 _ h u γ _ w md T' h' u' hx (hC.skip mE) hm k6 hV
  rename_i hw;rw[zCK hC.er hw];simp only[if_true];split at hx
  ·rename_i ma
   -- recover
   have ke:(execOp a.eval o).run C.P w=.ok .recover w:=by
    unfold zAS at ma;split at ma
    ·rename_i c hH;split at ma
     ·rename_i q4;unfold execOp;simp only[hH];unfold resolve;simp only[q4,Sem.run_bind,Sem.run_pure,Result.andThen_ok,invoke,builtin]
     cases ma
    cases ma
   rw[ke];simp only;have fin:∀(x:Tree) (uu:Pn) (xv:Value) (md2:FrameMode),recovered u=(x,uu)→TR γ.imm x xv→MR γ.imm uu md2→wpOpsSIn (Wd none) 0 C.P hA Q (List.range' (i+1) hE.length) (a.put o.dst xv) ({ c₀ with mode:=md2 }::cs) w:=by
    intro x uu xv md2 sb nI q0;rw[sb] at hx;have k9:Inv w0 none e k γ h (putT T o.dst (.t x)) (a.put o.dst xv) w :=
     ⟨hC.hr,hC.base,hC.er.put (.t x xv nI) fun d mj=>Nat.lt_of_lt_of_le (mE d mj) hC.sz,by rw[zHi];exact hC.sz,by rw[zEK,zDR mE];exact hC.nd,hC.ew,fun hh=>by cases hh⟩
    exact zD7 hρ hO hE (i+1) h9 _ h uu γ _ w md2 T' h' u' hx k9 q0 k6 hV
   match u,hm with
   |none,hm =>
    have:md=.returning:=hm;subst this;exact fin .nilifc none .nilIface .returning rfl .nilifc rfl
   |some (x,false),⟨v,h1,h2⟩ =>
    subst h2;exact fin x (some (x,true)) v (.panicking [{ v:=v,recovered:=true }]) rfl h1 ⟨v,h1,rfl⟩
   |some (x,true),⟨v,h1,h2⟩ =>
    subst h2;exact fin .nilifc (some (x,true)) .nilIface (.panicking [{ v:=v,recovered:=true }]) rfl .nilifc ⟨v,h1,rfl⟩
  split at hx
  ·rename_i nq;split at hx
   ·rename_i v p he;have mK:o.wpIn (Wd none) 0 C.P a w (fun a' w'=>∃xv,a'=a.put o.dst xv∧wpOpsSIn (Wd none) 0 C.P hA Q (List.range' (i+1) hE.length) (a.put o.dst xv) ({ c₀ with mode:=md }::cs) w') (fun _ _ _=>False):=by
     refine zFU (rr:=none) hρ hO hC.hr hC.base hC.er he (fun i x hi _=>hC.hr.free hi) fun xv w' γ' x hh f hv=>⟨xv,rfl,?_⟩
     obtain⟨k9,e'⟩:=hC.step (o:=o) x hh f hv mE;exact zD7 hρ hO hE (i+1) h9 _ _ u γ' _ w' md T' h' u' hx k9 (hm.mono e'.imm) k6 fun γ'' a'' w'' md'' h0 h1 h2 h3=>hV γ'' a'' w'' md'' h0 h1 (f.trans h2) (e'.trans h3)
    have mK:=mK.2;rw[show o.semAt (Wd none).round a.eval=execOp a.eval o from rfl] at mK;rcases zVQ (P:=C.P) nq a.eval w with ⟨xv,w',hr⟩|⟨x,w',hr⟩
    ·rw[hr] at mK ⊢;rw[Oper.uponIn_value] at mK;obtain⟨xv',e1,e2⟩:=mK;simp only;rw[e1];exact e2
    rw[hr] at mK ⊢;cases x<;>exact(mK:False).elim
   cases hx
  cases hx
def zUo {C:Cfg} {w0:World} {e:Nat} {ρ:Oracle} (hρ:xX C.P w0 ρ) (hO:uM C w0) (hX:zCw C ρ w0) (n m k:Nat) (keep:Nat→Option (List Nat)) (c₀:Frame) (cs:List Frame) :
  ∀(c:Code) (st:St) (u:Pn) (r:Ex) (st':St) (u':Pn) (γ:G) (a:Act) (w:World) (md:FrameMode) (Q:Exit→Act→List Frame→World→Prop),
   uB C ρ n m k keep c st u=some (r,st',u')→Inv w0 none e k γ st.h st.T a w→MR γ.imm u md→zMj w0 e k m γ (nth st.h) w r st' u' c₀ cs Q →
   c.wpSIn (Wd none) 0 C.P Q a ({ c₀ with mode:=md }::cs) w:=by
 -- code without recover
 have plain:∀(c:Code) (st:St) (u:Pn) (r:Ex) (st':St) (γ:G) (a:Act) (w:World) (md:FrameMode) (Q:Exit→Act→List Frame→World→Prop),
   exec C ρ n m k keep c st=some (r,st')→Inv w0 none e k γ st.h st.T a w→MR γ.imm u md→zMj w0 e k m γ (nth st.h) w r st' u c₀ cs Q →
   c.wpSIn (Wd none) 0 C.P Q a ({ c₀ with mode:=md }::cs) w:=by
  intro c st u r st' γ a w md Q hx hi hm hp;refine wpSIn_of_wpIn rfl (zFl hρ hO hX n m k keep c st r st' γ a w _ hx hi fun γ1 a1 w1 i1 f1 m1 k1=>?_);have:=hp γ1 a1 w1 md i1 (hm.mono m1) f1 m1 k1;cases r<;>exact this
 intro c
 induction c with
 |region id hA draw =>
  intro st u r st' u' γ a w md Q hx hi hm hp;cases draw with
  |true =>
   unfold uB zE4 at hx;split at hx
   ·rename_i e1 st1 h1;cases hx;exact plain _ _ _ _ _ _ _ _ _ _ h1 hi hm hp
   cases hx
  |false =>
   unfold uB zE4 at hx;split at hx
   ·split at hx
    ·rename_i hU;split at hx
     ·rename_i T h u1 hr;simp only[Option.some.injEq,Prod.mk.injEq] at hx;obtain⟨rfl,rfl,rfl⟩:=hx;refine wpSIn_region ?_;rw[List.range_eq_range'];have:=zD7 hρ hO (Q:=Q) (c₀:=c₀) (cs:=cs) hA.toList 0 rfl st.T st.h u γ a w md T h _ hr hi hm hU (fun γ' a' w' md' i1 m1 f1 e1=>hp γ' a' w' md' i1 m1 f1 e1.imm (e1.keep m))
      simpa using this
     cases hx
    cases hx
   split at hx
   ·rename_i e1 st1 h1;cases hx;exact plain _ _ _ _ _ _ _ _ _ _ h1 hi hm hp
   cases hx
 |seq x y ihx ihy =>
  intro st u r st' u' γ a w md Q hx hi hm hp;unfold uB zE4 at hx;split at hx
  ·split at hx
   ·rename_i st1 u1 h1;split at hx
    ·rename_i e2 st2 h2;simp only[Option.some.injEq,Prod.mk.injEq] at hx;obtain⟨rfl,rfl,rfl⟩:=hx;refine wpSIn_seq (ihx st u .normal st1 _ γ a w md _ h1 hi hm fun γ1 a1 w1 md1 i1 m1 f1 im1 k1=>?_);exact plain y st1 _ _ _ γ1 a1 w1 md1 Q h2 i1 m1 (hp.after f1 im1 k1)
    cases hx
   rename_i r1 kc;refine wpSIn_seq (ihx st u r st' u' γ a w md _ hx hi hm fun γ1 a1 w1 md1 i1 m1 f1 im1 k1=>?_);have:=hp γ1 a1 w1 md1 i1 m1 f1 im1 k1;cases r with
   |normal=>exact absurd hx (kc st' u')
   |exit id=>exact this
   |ret=>exact this
   |pan v=>exact this
  split at hx
  ·rename_i st1 h1;refine wpSIn_seq (plain x st u .normal st1 γ a w md _ h1 hi hm fun γ1 a1 w1 md1 i1 m1 f1 im1 k1=>?_);exact ihy st1 u r st' u' γ1 a1 w1 md1 Q hx i1 m1 (hp.after f1 im1 k1)
  ·rename_i e1 st1 kc h1;cases hx;refine wpSIn_seq (plain x st u r st' γ a w md _ h1 hi hm fun γ1 a1 w1 md1 i1 m1 f1 im1 k1=>?_);have:=hp γ1 a1 w1 md1 i1 m1 f1 im1 k1;cases r with
   |normal=>exact absurd rfl kc
   |exit id=>exact this
   |ret=>exact this
   |pan v=>exact this
  cases hx
 |_ =>
  intro st u r st' u' γ a w md Q hx hi hm hp;unfold uB zE4 at hx;split at hx
  ·rename_i e1 st1 h1;cases hx;exact plain _ _ _ _ _ _ _ _ _ _ h1 hi hm hp
  cases hx
def zWE {C:Cfg} {w0:World} (hO:uM C w0) {ρ:Oracle} (ih:xX C.P w0 ρ) (hX:zCw C ρ w0) (n:Nat) {f:FuncId} {args:List AV} {h:Heap} {hI:Out} {h':Heap}
  (hf:nth C.P.funcs.toList f=none) (sc:f≠vL) (hx:zJb C ρ n (f - xG) args h=some (hI,h')):zOG C.P w0 f args h hI h':=by
 intro γ w vs hr hb hv;have mZ:¬ f<C.P.funcs.size:=fun hh=>by
  rw[yP] at hf;rw[List.getElem?_eq_getElem (by simpa using hh)] at hf;cases hf
 unfold CK;rw[if_neg mZ,if_neg sc];unfold zJb at hx;split at hx
 ·cases hx
 rename_i a args;obtain⟨pv,us,rfl,qy,nm⟩:=hv.cases_cons;split at hx
 ·rename_i u fn hu nR;rw[yP] at nR;have m0:C.P.funcs[f - xG]?=some fn:=by simpa using nR
  split at hx
  ·cases hx
  rename_i c hc;have hm:=MR.of_value hu qy;refine⟨pv,us,rfl,callsDIn_of_wpSIn m0 hc trivial fun c₀ cs hc₀=>?_⟩;have mQ:({ c₀ with mode:=zE1 pv }:Frame)=c₀:=by rw[← hc₀]
  split at hx
  ·rename_i ml;have ml:=Nat.le_of_ble_eq_true ml;have hC:=zPV ml hr hb nm;have main:∀(r:Ex) (st:St) (u2:Pn),(r=.normal∨r=.ret)→uB C ρ n h.length fn.ntmps (C.keep (f - xG)) c ⟨zT 0 args,h⟩ u=some (r,st,u2) →
     (match yK fn.ntmps st.T,results C.P fn st with
      |some [],some _=>match canon st.h h.length [] with
       |some (_,h)=>some (Out.val (pnAV (zCY u2)),h)
       |none=>none
      |_,_=>none)=some (hI,h') →
     c.wpSIn (Wd none) 0 C.P (bodyPostS C.P fn c₀ cs fun e m w'=>∃x,e=.returned x∧∃v,settle m=zE1 v∧∃ γ',HR γ' (nth h') w'∧Fr γ w γ' w'∧uU γ.imm γ'.imm∧Keep h.length γ (nth h) γ' (nth h')∧Ends γ' (nth h') hI (.returned v))
      {tmps:=us.toArray++Array.replicate (fn.ntmps - us.toArray.size) undef,defers:=[] } (c₀::cs) w:=by
    intro r st u2 mb kw hY;rw[← mQ];refine zUo ih hO hX n h.length fn.ntmps (C.keep (f - xG)) c₀ cs c ⟨zT 0 args,h⟩ u r st u2 γ _ w (zE1 pv) _ kw hC hm fun γ1 a1 w1 md1 i1 m1 f1 im1 k1=>?_
    split at hY
    ·rename_i v hd nD;split at hY
     ·rename_i h2 nr;simp only[Option.some.injEq,Prod.mk.injEq] at hY;obtain⟨e1,e2⟩:=hY;subst e1;subst e2;obtain⟨xv,q5,mA⟩:=zGq i1.hr i1.er nD;obtain⟨ids,g1,g2,g3,g4⟩:=zEp i1.hr nr;have kj:a1.defers=[]:=by
       have kj:=i1.nd;unfold yK at hd;split at hd
       ·rename_i hg;rw[hg] at kj;exact kj
       ·rename_i ds hg;rw[hg] at kj;cases hd;have kj:DRel _ _ _ _ [] a1.defers:=kj;cases qv:a1.defers with
        |nil=>rfl
        |cons d ds=>rw[qv] at kj;exact kj.elim
       cases hd
      have sd:=m1.settle;obtain⟨v2,se,mP⟩:=MR.value (γ:=γ1.sub ids) (g:=nth h2) (u:=zCY u2) (m:=settle md1) sd;have key:a1.defers=[]∧∃u',({ c₀ with mode:=md1 }:Frame)::cs={ c₀ with mode:=u' }::cs∧∃v,(Go.results fn a1.tmps).run C.P w1=.ok v w1 ∧
        ∃x,(Ending.returned v)=.returned x∧∃v,settle u'=zE1 v∧∃ γ',HR γ' (nth h2) w1∧Fr γ w γ' w1∧uU γ.imm γ'.imm∧Keep h.length γ (nth h) γ' (nth h2)∧Ends γ' (nth h2) (.val (pnAV (zCY u2))) (.returned v) :=
       ⟨kj,md1,rfl,xv,q5,xv,rfl,v2,mP.symm,γ1.sub ids,g1,f1.trans (.sub _ _ _),im1,k1.trans g2,se⟩
      rcases mb with rfl|rfl<;>exact key
     cases hY
    cases hY
   split at hx
   ·rename_i st u2 kw;exact main _ st u2 (.inl rfl) kw hx
   ·rename_i st u2 kw;exact main _ st u2 (.inr rfl) kw hx
   cases hx
  cases hx
 cases hx
def yFU {γ:G} {g:Look} {T:Env} {tmps:Array Value} {p:Nat} {x:AV} {v:Value} (hp:p<tmps.size) (h:∀t,VR γ g (get T t) (tmps.getD t undef)) (hv:VR γ g x v) :
  ∀t,VR γ g (get ((p,x)::T) t) ((tmps.setIfInBounds p v).getD t undef):=by
 intro t;simp only[get];cases hb:Nat.beq p t with
 |true =>
  have:=Nat.eq_of_beq_eq_true hb;subst this;simp only;rw[Array.getD_eq_getD_getElem?,Array.getElem?_setIfInBounds_self_of_lt hp];exact hv
 |false =>
  have:=Nat.ne_of_beq_eq_false hb;simp only;rw[Array.getD_eq_getD_getElem?,Array.getElem?_setIfInBounds_ne this,← Array.getD_eq_getD_getElem?];exact h t
def zNb{γ:G}{g:Look}{k:Nat}:∀ {ps:List Nat} {as:List AV} {us:List Value} {T T1:Env} {tmps:Array Value},zGZ ps as T=some T1→zCv.dstOKL k ps=true→k≤tmps.size→VRs γ g as us →
  (∀t,VR γ g (get T t) (tmps.getD t undef)) →
  us.length=ps.length∧k≤((ps.zip us).foldl (fun tmps (q:Nat×Value)=>tmps.setIfInBounds q.1 q.2) tmps).size∧get T1 k=get T k ∧
   ∀t,VR γ g (get T1 t) (((ps.zip us).foldl (fun tmps (q:Nat×Value)=>tmps.setIfInBounds q.1 q.2) tmps).getD t undef)
 |[],[],us,T,T1,tmps,hs,hd,hk,hv,he=>by
  have:=hv.nil_inv;subst this;cases hs;exact⟨rfl,hk,rfl,he⟩
 |p::ps,a::as,us,T,T1,tmps,hs,hd,hk,hv,he=>by
  obtain⟨u,us',rfl,hu,nm⟩:=hv.cases_cons;unfold zCv.dstOKL at hd;rw[Bool.and_eq_true,Nat.blt_eq] at hd;unfold zGZ at hs;obtain⟨h1,h2,h3,h4⟩:=zNb (tmps:=tmps.setIfInBounds p u) hs hd.2 (by simpa using hk) nm (yFU (by omega) he hu);refine⟨by simp [h1],h2,?_,h4⟩;rw[h3];simp only[get];cases hb:Nat.beq p k with
  |true=>have:=Nat.eq_of_beq_eq_true hb;omega
  |false=>rfl
 |[],_::_,_,_,_,_,hs,_,_,_,_=>by simp [zGZ] at hs
 |_::_,[],_,_,_,_,hs,_,_,_,_=>by simp [zGZ] at hs
def zV6 {C:Cfg} {w0:World} (hO:uM C w0) {ρ:Oracle} (ih:xX C.P w0 ρ) (hX:zCw C ρ w0) (n:Nat) {args:List AV} {h:Heap} {hI:Out} {h':Heap}
  (hx:zCv C ρ n args h=some (hI,h')):zOG C.P w0 vL args h hI h':=by
 intro γ w vs hr hb hv;have mZ:¬ vL<C.P.funcs.size:=by have:=hO.1;unfold xG at this;unfold vL;omega
 unfold CK;rw[if_neg mZ,if_pos rfl];unfold zCv at hx;split at hx
 ·rename_i id as;split at hx
  ·rename_i c T kz;split at hx
   ·rename_i T1 q6 qa;rw[Bool.and_eq_true,Nat.blt_eq] at qa;obtain⟨yv,us,rfl,n7,nm⟩:=hv.cases_cons;cases n7 with
    |yld _ L hβ mM =>
    obtain⟨o,ho,ki⟩:=hr.obj id L hβ;rw[kz] at ho;cases ho;obtain⟨⟨rc,qq,mn⟩,nk⟩:=ki
    -- the environment,with the mark of a round at the uN of the temporaries
    have q7:∀t,VR γ (nth h) (get ((c.k,.rnd)::T) t) (rc.tmps.getD t undef):=fun t=>by
     simp only[get];cases hb:Nat.beq c.k t with
     |true=>exact .rnd _
     |false=>exact mn.er t
    obtain⟨ka,mg,sf,mo⟩:=zNb (us:=us) (tmps:=rc.tmps) q6 qa.2 mn.sz nm q7;have rG:get T1 c.k=.rnd:=by rw[sf];simp only[get,Nat.beq_refl]
    -- the round,as the model begins it
    have nS:us.toArray.size=rc.params.size:=by
     rw[List.size_toArray,ka,← mn.ps,Array.length_toList]
    have hy:=run_yield (P:=C.P) (args:=us.toArray) qq nS;have nT:(rc.params.zip us.toArray).foldl (fun(tmps:Array Value) (x:Nat×Value)=>match x with|(t,a)=>tmps.setIfInBounds t a) rc.tmps=(c.ps.zip us).foldl (fun tmps (q:Nat×Value)=>tmps.setIfInBounds q.1 q.2) rc.tmps:=by
     rw[← Array.foldl_toList,Array.toList_zip,mn.ps]
    rw[nT] at hy;generalize sD:(c.ps.zip us).foldl (fun tmps (q:Nat×Value)=>tmps.setIfInBounds q.1 q.2) rc.tmps=tmps at hy mg mo;refine⟨L,us,rc.fn,tmps,rc.assign,rc.body,rfl,hy,fun rr=>?_⟩;have hC:Inv w0 (some L) w.heap.size c.k γ h T1 { tmps:=tmps,defers:=[] } w :=
     ⟨hr,hb,mo,mg,by rw[rG];exact rfl,Nat.le_refl _,fun _=>rG⟩
    split at hx<;>first|(cases hx;done)|skip
    rename_i st q8;split at hx<;>first|(cases hx;done)|skip
    rename_i c' T' ne;split at hx<;>first|(cases hx;done)|skip
    rename_i e st2 hM;split at hx<;>first|(cases hx;done)|skip
    rename_i jump c2 T2 b2 j2 mi nf;split at hx<;>first|(cases hx;done)|skip
    rename_i _ hf nr;simp only[Option.some.injEq,Prod.mk.injEq] at hx;obtain⟨rfl,rfl⟩:=hx;refine roundIn_of_wpIn (F:=Wd rr) trivial ?_;rw[mn.asg,mn.body]
    show c.asg.wpIn (Wd (some L)) 0 C.P _ _ _
    refine zFl ih hO hX n h.length c.k (C.keep c.kf) c.asg ⟨T1,h⟩ .normal st γ _ w _ q8 hC fun γ1 a1 w1 i1 f1 m1 k1=>?_
    -- behind the assignments
    obtain⟨m8,sE⟩:=k1.box id L qa.1 hβ mM;obtain⟨o1,rH,q9⟩:=i1.hr.obj id L m8;rw[ne] at rH;cases rH;obtain⟨⟨r1,my,nt⟩,_⟩:=q9;have nu:r1.state=.ready:=by
     have:=nt.st;cases hs:r1.state<;>rw[hs] at this<;>first|rfl|(simp [zNU] at this)
    refine⟨_,run_beginRound my nu,?_⟩;obtain⟨x2,mR,f2⟩:=zKg (r':={ r1 with state:=.busy }) (c':=c') (T':=T') (st':=1) (j':=none) i1.hr m8 ne ⟨nt.ps,nt.asg,nt.body,nt.sz,rfl,nt.j,nt.er⟩;generalize hW:w1.putObj L (.loop { r1 with state:=.busy })=w2 at mR f2;have same2:Same (upd (nth st.h) [(id,.loop c' T' 1 none)]) (nth (patch st.h [(id,.loop c' T' 1 none)])):=qN (Same.refl _);have xx2:=x2.trans (same2.ext γ1);have nU:Inv w0 (some L) w.heap.size c.k γ1 (patch st.h [(id,.loop c' T' 1 none)]) st.T a1 w2 :=
     ⟨mR.same same2,i1.base.mono f2,i1.er.mono xx2,i1.sz,i1.nd.mono xx2 f2,Nat.le_trans i1.ew f2.size,i1.ro⟩
    have kp2:=k1.trans (xx2.keep h.length)
    show c.body.wpIn (Wd (some L)) 0 C.P _ _ _
    refine zFl ih hO hX n h.length c.k (C.keep c.kf) c.body ⟨st.T,patch st.h [(id,.loop c' T' 1 none)]⟩ e st2 γ1 _ w2 _ hM nU fun γ3 a3 w3 i3 f3 m3 k3=>?_
    -- behind the body
    have kp3:=kp2.trans k3;obtain⟨rI,sF⟩:=kp3.box id L qa.1 hβ mM;obtain⟨o3,rJ,ra⟩:=i3.hr.obj id L rI;rw[nf] at rJ;cases rJ;obtain⟨⟨r3,n9,nV⟩,_⟩:=ra;obtain⟨x4,sg,f4⟩:=zKg (r':={ r3 with state:=if jump.isNone then .ready else .done,pending:=jump }) (c':=c2) (T':=T2) (st':=if jump.isNone then 0 else 2) (j':=jump) i3.hr rI nf
     ⟨nV.ps,nV.asg,nV.body,nV.sz,by cases jump<;>rfl,rfl,nV.er⟩
    have same4:Same (upd (nth st2.h) [(id,.loop c2 T2 (if jump.isNone then 0 else 2) jump)]) (nth (patch st2.h [(id,.loop c2 T2 (if jump.isNone then 0 else 2) jump)])):=qN (Same.refl _);have xx4:=x4.trans (same4.ext γ3);obtain⟨ids,g1,g2,g3,g4⟩:=zEp (sg.same same4) nr;have fin:∃v w',(Instr.endRound L jump).run C.P w3=.ok v w'∧∃ γ',HR γ' (nth hf) w'∧Fr γ w γ' w'∧uU γ.imm γ'.imm∧Keep h.length γ (nth h) γ' (nth hf)∧Ends γ' (nth hf) (.val (.t (.bool jump.isNone))) (.returned v) :=
     ⟨.bool jump.isNone,_,run_endRound jump n9,γ3.sub ids,g1,(f1.trans (f2.trans (f3.trans f4))).trans (.sub _ _ _),m1.trans (xx2.imm.trans (m3.trans xx4.imm)),(kp3.trans (xx4.keep h.length)).trans g2,.t _ _ (.bool _)⟩
    cases e with
    |normal=>cases mi;exact fin
    |ret=>cases mi;exact fin
    |exit id'=>cases mi;exact fin
    |pan v=>cases mi
   cases hx
  cases hx
 cases hx
def zWm{C:Cfg}{w0:World}(hO:uM C w0)(hX:∀ ρ,xX C.P w0 ρ→zCw C ρ w0){ρ:Oracle}(ih:xX C.P w0 ρ)(n:Nat):xX C.P w0 (zDl C ρ n) :=
 fun f args h hI h' hx=>by
  unfold zDl at hx;split at hx
  ·rename_i k8;split at hx
   ·rename_i hb;have:=Nat.eq_of_beq_eq_true hb;subst this;exact zV6 hO ih (hX _ ih) n hx
   rename_i hb;split at hx
   ·exact zWE hO ih (hX _ ih) n k8 (Nat.ne_of_beq_eq_false hb) hx
   cases hx
  rename_i fn nR;rw[yP] at nR;have m0:C.P.funcs[f]?=some fn:=by simpa using nR
  split at hx
  ·cases hx
  rename_i c hc;split at hx
  ·rename_i ml;have ml:=Nat.le_of_ble_eq_true ml;intro γ w vs hr hb hv;unfold CK;rw[if_pos (Array.getElem?_eq_some_iff.1 m0).1];refine(zHj (r:=none) (n:=0)).1 (callsIn_of_wp_marks m0 hc trivial ?_);have hC:=zPV ml hr hb hv;have nP:w0.heap.size≤w.heap.size:=hb.1
   -- nothing waits
   have none_waits:∀ {T:Env} {γ1:G} {g1:Look} {w1:World} {ds:List Deferred},yK fn.ntmps T=some []→DR γ1 g1 w1 w.heap.size (get T fn.ntmps) ds→ds=[]:=fun {T γ1 g1 w1 ds} hd kj=>by
    unfold yK at hd;split at hd
    ·rename_i hg;rw[hg] at kj;exact kj
    ·rename_i ds' hg;rw[hg] at kj;cases hd;have kj:DRel _ _ _ _ [] ds:=kj;cases ds with
     |nil=>rfl
     |cons d ds=>exact kj.elim
    cases hd
   have waits:∀ {T:Env} {γ1:G} {g1:Look} {w1:World} {dl:List Deferred} {ds:List AV},yK fn.ntmps T=some ds→DR γ1 g1 w1 w.heap.size (get T fn.ntmps) dl→DRel γ1 g1 w1 w.heap.size ds dl:=fun {T γ1 g1 w1 dl ds} hd kj=>by
    unfold yK at hd;split at hd
    ·rename_i hg;rw[hg] at kj;cases hd;rw[show dl=[] from kj];trivial
    ·rename_i ds' hg;rw[hg] at kj;cases hd;exact kj
    cases hd
   have val:∀(r:Ex) (st:St),(r=.normal∨r=.ret)→(match yK fn.ntmps st.T with
      |some []=>match results C.P fn st with
       |none=>none
       |some v=>match yW C f h.length v st.h with
        |some (v,h)=>some (Out.val v,h)
        |none=>none
      |some ds=>leave C ρ f fn h.length ds none st.T st.h
      |none=>none)=some (hI,h') →
     exec C ρ n h.length fn.ntmps (C.keep f) c ⟨zT 0 args,h⟩=some (r,st) →
     Code.wpIn (Wd none) 0 C.P c (bodyPostM (Wd none) 0 C.P fn (Done γ (nth h) w h.length h' hI)) { tmps:=vs.toArray++Array.replicate (fn.ntmps - vs.toArray.size) undef,defers:=[] } w:=by
    intro r st mb hY kw;refine zFl ih hO (hX _ ih) n h.length fn.ntmps (C.keep f) c ⟨zT 0 args,h⟩ r st γ _ w _ kw hC fun γ1 a1 w1 i1 f1 m1 k1=>?_
    have key:LeavesInM (Wd none) 0 C.P fn a1.tmps (Done γ (nth h) w h.length h' hI) a1.defers .returning w1:=by
     split at hY
     ·rename_i hd;rw[none_waits hd i1.nd];split at hY
      ·cases hY
      rename_i v nD;split at hY
      ·rename_i v2 h2 mq;simp only[Option.some.injEq,Prod.mk.injEq] at hY;obtain⟨rfl,rfl⟩:=hY;obtain⟨u,qw,nQ⟩:=zGq i1.hr i1.er nD;obtain⟨γ2,g1,g2,g3,g4,g5⟩:=zEN i1.hr nQ mq;exact⟨u,qw,γ2,g1,f1.trans g2,m1.trans g3,k1.trans g4,g5⟩
      cases hY
     ·rename_i ds _ hd;exact zF1 ih hO (Nat.le_refl _) nP ds a1.defers none .returning st.T st.h γ1 w1 hY i1.hr i1.base i1.er (waits hd i1.nd) rfl f1 m1 k1
     cases hY
    rcases mb with rfl|rfl<;>exact key
   unfold zCs at hx;split at hx
   ·rename_i st kw;exact val _ st (.inl rfl) hx kw
   ·rename_i st kw;exact val _ st (.inr rfl) hx kw
   ·rename_i v st kw;refine zFl ih hO (hX _ ih) n h.length fn.ntmps (C.keep f) c ⟨zT 0 args,h⟩ (.pan v) st γ _ w _ kw hC fun γ1 a1 w1 i1 f1 m1 k1 u hu=>?_
    show LeavesInM (Wd none) 0 C.P fn a1.tmps (Done γ (nth h) w h.length h' hI) a1.defers (.panicking [{ v:=u,recovered:=false }]) w1
    split at hx
    ·rename_i hd;rw[none_waits hd i1.nd];split at hx
     ·rename_i v2 h2 mq;simp only[Option.some.injEq,Prod.mk.injEq] at hx;obtain⟨rfl,rfl⟩:=hx;obtain⟨γ2,g1,g2,g3,g4,g5⟩:=zEN i1.hr hu mq;exact⟨γ2,g1,f1.trans g2,m1.trans g3,k1.trans g4,u,rfl,g5⟩
     cases hx
    ·rename_i ds _ hd;split at hx
     ·rename_i x;exact zF1 ih hO (Nat.le_refl _) nP ds a1.defers (some (x,false)) _ st.T st.h γ1 w1 hx i1.hr i1.base i1.er (waits hd i1.nd) ⟨u,hu.of_tree,rfl⟩ f1 m1 k1
     cases hx
    cases hx
   cases hx
  cases hx
def zO8{C:Cfg}{w0:World}(hO:uM C w0)(hX:∀ ρ,xX C.P w0 ρ→zCw C ρ w0):∀n,xX C.P w0 (zBg C n)
 |0=>fun f args h hI h' hx=>by simp [zBg] at hx
 |n+1=>zWm hO hX (zO8 hO hX n) n
def Ag(g g':Look)(l:List Nat):Prop:=∀id ∈ l,g' id=g id
theorem Ag.left{g g':Look}{l l':List Nat}(h:Ag g g' (l++l')):Ag g g' l:=fun id hid=>h id (List.mem_append_left _ hid)
theorem Ag.right{g g':Look}{l l':List Nat}(h:Ag g g' (l++l')):Ag g g' l':=fun id hid=>h id (List.mem_append_right _ hid)
theorem Ag.one{g g':Look}{id:Nat}(h:Ag g g' [id]):g' id=g id:=h id (.head _)
theorem Ag.catMap{α:Type}{g g':Look}{f:α→List Nat}{l:List α}(h:Ag g g' (Ab.catMap f l)){x:α}(hx:x ∈ l):Ag g g' (f x) :=
 fun id hid=>h id (wD.2 ⟨x,hx,hid⟩)
def wQ{α β:Type}{f f':α→List β}:∀ {l:List α},(∀x ∈ l,f' x=f x)→catMap f' l=catMap f l
 |[],_=>rfl
 |a::l,h=>by simp only[catMap];rw[h a (.head _),wQ fun x hx=>h x (List.mem_cons_of_mem _ hx)]
def zH9{id:Nat}:∀ {p:Patch} {g g':Look},g' id=g id→upd g' p id=upd g p id
 |[],g,g',h=>h
 |(i,o)::p,g,g',h=>by
  unfold upd;refine zH9 ?_;cases Nat.beq id i with
  |true=>rfl
  |false=>exact h
def zDZ{g g':Look}{id ver:Nat}(h:g' id=g id):fresh g' id ver=fresh g id ver:=by unfold fresh;rw[h]
def zBS{g g':Look}:∀(d:Nat) (v:AV),Ag g g' (names d v)→refs g' d v=refs g d v
 |0,v,_=>rfl
 |d+1,v,h=>by
  cases v with
  |el id ver i off=>simp only[refs];rw[zDZ h.one]
  |hs id ver=>simp only[refs];rw[zDZ h.one]
  |hsub id ver lo len=>simp only[refs];rw[zDZ h.one]
  |agg cs=>exact wQ fun c hc=>zBS d c (h.catMap hc)
  |fn f a b =>
   simp only[refs];rw[wQ fun c hc=>zBS d c ((Ag.left h).catMap hc),wQ fun c hc=>zBS d c ((Ag.right h).catMap hc)]
  |tup vs=>exact wQ fun c hc=>zBS d c (h.catMap hc)
  |dfr vs=>exact wQ fun c hc=>zBS d c (h.catMap hc)
  |ifv t v=>exact zBS d v h
  |_=>rfl
def zKM{g g':Look}{vs:List AV}(h:Ag g g' (kV vs)):wT g' vs=wT g vs :=
 wQ fun v hv=>zBS depth v (Ag.catMap h hv)
def zW2{g g':Look}{o:Obj}(h:Ag g g' (zIw o)):vS g' o=vS g o:=by
 cases o with
 |box cs=>exact zKM h
 |marr s ver es=>exact wQ fun e he=>zKM (Ag.catMap h he)
 |map es=>exact wQ fun e he=>zBS depth e.2 (Ag.catMap (f:=fun e:Tree×AV=>names depth e.2) h he)
 |loop c T b j=>exact wQ fun e he=>zBS depth e.2 (Ag.catMap (f:=fun e:Nat×AV=>names depth e.2) h he)
 |_=>rfl
def zDu{g g':Look}{ids:List Nat}:∀(d:Nat) (v:AV),Ag g g' (names d v)→ren g' ids d v=ren g ids d v
 |0,v,_=>rfl
 |d+1,v,h=>by
  cases v with
  |el id ver i off=>simp only[ren];rw[zDZ h.one]
  |hs id ver=>simp only[ren];rw[zDZ h.one]
  |hsub id ver lo len=>simp only[ren];rw[zDZ h.one]
  |agg cs=>simp only[ren];rw[List.map_congr_left fun c hc=>zDu d c (Ag.catMap h hc)]
  |fn f a b =>
   simp only[ren];rw[List.map_congr_left fun c hc=>zDu d c ((Ag.left h).catMap hc),List.map_congr_left fun c hc=>zDu d c ((Ag.right h).catMap hc)]
  |tup vs=>simp only[ren];rw[List.map_congr_left fun c hc=>zDu d c (Ag.catMap h hc)]
  |dfr vs=>simp only[ren];rw[List.map_congr_left fun c hc=>zDu d c (Ag.catMap h hc)]
  |ifv t v=>simp only[ren];rw[zDu d v h]
  |_=>rfl
def zM2{g g':Look}{ids:List Nat}{vs:List AV}(h:Ag g g' (kV vs)):renL g' ids vs=renL g ids vs :=
 List.map_congr_left fun v hv=>zDu depth v (Ag.catMap h hv)
def zZF{g g':Look}{ids:List Nat}{o:Obj}(h:Ag g g' (zIw o)):renO g' ids o=renO g ids o:=by
 cases o with
 |box cs=>simp only[renO];rw[zM2 h]
 |marr s ver es=>simp only[renO];rw[List.map_congr_left fun e he=>zM2 (Ag.catMap h he)]
 |map es =>
  simp only[renO]
  congr 1
  refine List.map_congr_left fun e he=>?_
  rw[zDu depth e.2 (Ag.catMap (f:=fun e:Tree×AV=>names depth e.2) h he)]
 |loop c T b j =>
  simp only[renO]
  congr 1
  refine List.map_congr_left fun e he=>?_
  rw[zDu depth e.2 (Ag.catMap (f:=fun e:Nat×AV=>names depth e.2) h he)]
 |_=>rfl
def zKk{g g':Look}:∀(n:Nat) (todo acc r:List Nat),reach g n todo acc=some r→Ag g g' r→Ag g g' (catMap (zGQ g) r)→reach g' n todo acc=some r
 |0,_,_,_,h,_,_=>by simp [reach] at h
 |_+1,[],acc,r,h,_,_=>by simpa [reach] using h
 |n+1,id::todo,acc,r,h,h1,h2=>by
  unfold reach at h ⊢;split at h
  ·rename_i hm;exact zKk n _ _ _ h h1 h2
  rename_i hm;split at h
  ·rename_i o ho;obtain⟨t,ht⟩:=zC4 _ _ _ _ h;have hid:id ∈ r:=by rw[ht];simp
   have hn:Ag g g' (zIw o):=by
    have:=Ag.catMap h2 hid;unfold zGQ at this;rw[ho] at this;exact this
   rw[h1 id hid,ho];simp only;rw[zW2 hn];exact zKk n _ _ _ h h1 h2
  cases h
def zQA{g g':Look}{ids:List Nat}:∀ {l:List Nat} {r:Heap},sub1 g ids l=some r→Ag g g' l→Ag g g' (catMap (zGQ g) l)→sub1 g' ids l=some r
 |[],r,h,_,_=>h
 |id::l,r,h,h1,h2=>by
  unfold sub1 at h ⊢;split at h
  ·cases h
  rename_i o ho;have hn:Ag g g' (zIw o):=by
   have:=Ag.catMap h2 (List.mem_cons_self ..);unfold zGQ at this;rw[ho] at this;exact this
  rw[h1 id (.head _),ho];simp only;split at h
  ·cases h
  rename_i os qc;rw[zQA qc (fun i hi=>h1 i (List.mem_cons_of_mem _ hi)) (fun i hi=>h2 i (by
   obtain⟨x,hx,nv⟩:=wD.1 hi;exact wD.2 ⟨x,List.mem_cons_of_mem _ hx,nv⟩)),zZF hn]
  exact h
def zN2{g g':Look}:∀ {ids:List Nat},Ag g g' ids→vN g' ids=vN g ids
 |[],_=>rfl
 |id::ids,h=>by
  simp only[vN];rw[h id (.head _),zN2 fun i hi=>h i (List.mem_cons_of_mem _ hi)]
def zIo {ρ:Oracle} {g g':Look} {frz:Patch} {nid:Nat} {f:FuncId} {args:List AV} {r:Out×Patch} (h:vY ρ g frz nid f args=some r) (h1:Ag g g' (kV args))
  (h2:Ag g g' (zIN g args)):vY ρ g' frz nid f args=some r:=by
 unfold vY at h ⊢;unfold zIN at h2;split at h
 ·cases h
 rename_i ids mh;rw[mh] at h2;simp only at h2;rw[zKM h1,zKk _ _ _ _ mh h2.left h2.right];simp only;split at h
 ·cases h
 rename_i hh hs;have:Ab.sub g' ids=some hh:=zQA hs h2.left h2.right;rw[this];simp only;rw[zM2 h1];have mD:∀v h',xM g' frz nid ids v h'=xM g frz nid ids v h':=fun v h'=>by
  unfold xM;rw[zN2 h2.left]
 split at h
 ·cases h
 ·rename_i v h' hρ;rw[mD];exact h
 rename_i v h' hρ;rw[mD];exact h
def zCc{g g':Look}{id ver:Nat}(h:g' id=g id):elems g' (.hs id ver)=elems g (.hs id ver):=by simp only[elems];rw[h]
def zA3{g g':Look}{id ver lo len:Nat}(h:g' id=g id):elems g' (.hsub id ver lo len)=elems g (.hsub id ver lo len):=by simp only[elems];rw[h]
def zPC{g g':Look}{x:AV}(h:Ag g g' (names depth x)):elems g' x=elems g x:=by
 cases x with
 |hs id ver=>exact zCc h.one
 |hsub id ver lo len=>exact zA3 h.one
 |t x=>cases x<;>rfl
 |_=>rfl
def zMN{g g':Look}{x:AV}(h:Ag g g' (names depth x)):view g' x=view g x:=by
 cases x with
 |hs id ver=>simp only[view];rw[zCc h.one]
 |hsub id ver lo len=>simp only[view];rw[zA3 h.one]
 |agg cs =>
  simp only[view]
  congr 1
  refine List.map_congr_left fun c hc=>?_
  have me:=Ag.catMap h hc;cases c with
  |hs id ver=>simp only;rw[zCc me.one]
  |hsub id ver lo len=>simp only;rw[zA3 me.one]
  |_=>rfl
 |_=>rfl
def zIt{g g':Look}{x:AV}(h:Ag g g' (names depth x)):yO g' x=yO g x:=by
 cases x with
 |hs id ver=>simp only[yO];rw[zCc h.one]
 |hsub id ver lo len=>simp only[yO];rw[zA3 h.one]
 |agg cs =>
  refine wQ fun c hc=>?_
  have me:=Ag.catMap h hc;cases c with
  |hs id ver=>simp only;rw[zCc me.one]
  |hsub id ver lo len=>simp only;rw[zA3 me.one]
  |_=>rfl
 |_=>rfl
def zHI{g:Look}{x:AV}:∀id ∈ yO g x,id ∈ names depth x:=by
 intro i hi;cases x with
 |hs id ver=>simp only[yO] at hi;split at hi<;>simp_all [names,depth]
 |hsub id ver lo len=>simp only[yO] at hi;split at hi<;>simp_all [names,depth]
 |agg cs =>
  obtain⟨c,hc,mG⟩:=wD.1 hi;refine wD.2 ⟨c,hc,?_⟩;cases c with
  |hs id ver=>simp only at mG;split at mG<;>simp_all [names]
  |hsub id ver lo len=>simp only at mG;split at mG<;>simp_all [names]
  |_=>cases mG
 |_=>cases hi
def zFO{g g':Look}:∀ {l:List Nat},Ag g g' l→xF g' l=xF g l
 |[],_=>rfl
 |id::l,h=>by
  simp only[xF];rw[h id (.head _),zFO fun i hi=>h i (List.mem_cons_of_mem _ hi)]
def zRD{g:Look}{x:AV}:∀id ∈ names depth (view g x),id ∈ names depth x:=by
 intro i hi;cases x with
 |hs id ver=>simp only[view] at hi;split at hi<;>simp_all [names,depth]
 |hsub id ver lo len=>simp only[view] at hi;split at hi<;>simp_all [names,depth]
 |agg cs =>
  simp only[view,mkAgg] at hi;split at hi
  ·cases hi
  obtain⟨c',me,mG⟩:=wD.1 hi;obtain⟨c,hc,rfl⟩:=List.mem_map.1 me;refine wD.2 ⟨c,hc,?_⟩;cases c with
  |hs id ver=>simp only at mG;split at mG<;>simp_all [names]
  |hsub id ver lo len=>simp only at mG;split at mG<;>simp_all [names]
  |_=>exact mG
 |_=>exact hi
def zP1{g:Look}{vs:List AV}:∀id ∈ kV (vs.map (view g)),id ∈ kV vs:=by
 intro i hi;obtain⟨c',me,mG⟩:=wD.1 hi;obtain⟨c,hc,rfl⟩:=List.mem_map.1 me;exact wD.2 ⟨c,hc,zRD i mG⟩
def zPg {C:Cfg} {ρ:Oracle} {g g':Look} {nid:Nat} {f:FuncId} {args:List AV} {r:Out×Patch} (h:jL C ρ g nid f args=some r) (ha:Ag g g' (zJz C g f args)) :
  jL C ρ g' nid f args=some r:=by
 unfold jL at h ⊢;unfold zJz at ha;cases hb:C.byRef f with
 |true =>
  rw[hb] at h ha;simp only at h ha ⊢;split at h
  ·exact zIo h ha.left ha.right
  cases h
 |false =>
  rw[hb] at h ha;simp only at h ha ⊢;have h1:=ha.left;have nW:args.map (view g')=args.map (view g):=List.map_congr_left fun x hx=>zMN (Ag.catMap h1 hx)
  have si:catMap (yO g') args=catMap (yO g) args:=wQ fun x hx=>zIt (Ag.catMap h1 hx)
  have sj:xF g' (catMap (yO g) args)=xF g (catMap (yO g) args):=zFO fun i hi=>by
   obtain⟨x,hx,nv⟩:=wD.1 hi;exact h1 i (wD.2 ⟨x,hx,zHI i nv⟩)
  rw[nW,si,sj];have h2:=ha.right;cases hp:C.prim f (args.map (view g)) with
  |some v=>rw[hp] at h;exact h
  |none =>
   rw[hp] at h h2;simp only at h h2 ⊢;split at h
   ·exact zIo h (fun i hi=>zH9 (h1 i (zP1 i hi))) (fun i hi=>zH9 (h2 i hi))
   cases h
def zH4{T T':Env}:∀ {l:List Operand},(∀x ∈ l,zN T' x=zN T x)→opds T' l=opds T l
 |[],_=>rfl
 |x::l,h=>by simp only[opds];rw[h x (.head _),zH4 fun y hy=>h y (List.mem_cons_of_mem _ hy)]
def zMB{T T':Env}:∀ {l:List (Nat×Operand)},(∀x ∈ l.map (·.2),zN T' x=zN T x)→kI T' l=kI T l
 |[],_=>rfl
 |(i,x)::l,h=>by
  simp only[kI];rw[h x (by simp),zMB fun y hy=>h y (by simp only[List.map_cons,List.mem_cons];exact .inr hy)]
def zMY{T T':Env}{b:Option Operand}(h:∀x,b=some x→zN T' x=zN T x):bound T' b=bound T b:=by
 cases b with
 |none=>rfl
 |some x=>simp only[bound];rw[h x rfl]
def zZa{C:Cfg}{ρ:Oracle}{g:Look}{nid:Nat}{T T':Env}{o:Oper}(h:∀x ∈ o.op.operands.toList,zN T' x=zN T x):exec1 C ρ g nid T' o=exec1 C ρ g nid T o:=by
 unfold exec1;cases hH:o.op<;>rw[hH] at h<;>(try simp only[Op.operands] at h)<;>(try simp only)
 case move x=>rw[h x (by simp)]
 case assign x=>rw[h x (by simp)]
 case pick c a b=>rw[h c (by simp),h a (by simp),h b (by simp)]
 case box e x=>rw[h x (by simp)]
 case build t ps=>rw[zMB fun x hx=>h x (by simpa using hx)]
 case buildSlice t n ps=>rw[zMB fun x hx=>h x (by simpa using hx)]
 case load t a=>rw[h a (by simp)]
 case store t a x=>rw[h a (by simp),h x (by simp)]
 case nilCheck x=>rw[h x (by simp)]
 case binOp op t x y ty=>rw[h x (by simp),h y (by simp)]
 case unOp op t x=>rw[h x (by simp)]
 case convert s d x=>rw[h x (by simp)]
 case makeFunc fn a b =>
  cases fn with
  |func f=>simp only;rw[zH4 fun x hx=>h x (by simp;exact .inl (by simpa using hx)),zH4 fun x hx=>h x (by simp;exact .inr (by simpa using hx))]
  |_=>rfl
 case makeSlice t l c=>rw[h l (by simp),h c (by simp)]
 case slice t x lo hi mx =>
  unfold zBE;rw[h x (by simp),zMY fun y hy=>h y (by subst hy;simp),zMY fun y hy=>h y (by subst hy;simp),zMY fun y hy=>h y (by subst hy;simp)]
 case fieldAddr s x f=>rw[h x (by simp)]
 case field s x f=>rw[h x (by simp)]
 case indexAddr t x i=>rw[h x (by simp),h i (by simp)]
 case index t x i=>rw[h x (by simp),h i (by simp)]
 case range t x=>rw[h x (by simp)]
 case next x b =>
  cases b with
  |true=>simp only;rw[h x (by simp)]
  |false=>rfl
 case extract t i=>rw[h t (by simp)]
 case call c =>
  unfold jM;unfold Call.operands at h;cases hc:c.callee with
  |value f =>
   rw[hc] at h;simp only at h ⊢;rw[h f (by simp),zH4 fun x hx=>h x (by simp;exact .inr (by simpa using hx))]
  |builtin b =>
   rw[hc] at h;simp only at h ⊢;have e:opds T' c.args.toList=opds T c.args.toList:=zH4 fun x hx=>h x (by simpa using hx)
   cases b<;>simp only[e]
  |invoke r m=>rfl
 case makeInterface t x=>rw[h x (by simp)]
 case typeAssert x a t ok=>rw[h x (by simp)]
 case panic x=>rw[h x (by simp)]
 case lookup t x i ok=>rw[h x (by simp),h i (by simp)]
 case insert t m k v=>rw[h m (by simp),h k (by simp),h v (by simp)]
 case mapUpdate t m k v=>rw[h m (by simp),h k (by simp),h v (by simp)]
 case makeMap t r=>cases r<;>rfl
def zOF{g g':Look}{n:Nat}{a:AV}(h:Ag g g' (names depth a)):loadCells g' n a=loadCells g n a:=by
 cases a with
 |box id off=>simp only[loadCells];rw[h.one]
 |el id ver i off=>simp only[loadCells];rw[h.one]
 |_=>rfl
def zRZ{g g':Look}{a:AV}{cs:List AV}(h:Ag g g' (names depth a)):storeAt g' a cs=storeAt g a cs:=by
 cases a with
 |box id off=>simp only[storeAt];rw[h.one]
 |el id ver i off=>simp only[storeAt];rw[h.one]
 |_=>rfl
def zVM{g g':Look}{x:AV}(h:Ag g g' (names depth x)):uS g' x=uS g x:=by
 unfold uS;rw[zMN h,zIt h,zFO fun i hi=>h i (zHI i hi)]
def zIn{g g':Look}:∀ {l:List (Nat×AV)},Ag g g' (kV (l.map (·.2)))→xA g' l=xA g l
 |[],_=>rfl
 |(i,v)::l,h=>by
  have h1:Ag g g' (names depth v):=Ag.catMap (f:=names depth) (l:=((i,v)::l).map (·.2)) h (by simp);simp only[xA];rw[zIn (l:=l) fun id hid=>h id (by
   obtain⟨x,hx,nv⟩:=wD.1 hid;exact wD.2 ⟨x,by simp only[List.map_cons,List.mem_cons];exact .inr hx,nv⟩),zMN h1,zIt h1,zFO fun i hi=>h1 i (zHI i hi)]
def zWH{g g':Look}{x:AV}(h:Ag g g' (names depth x)):lenOf g' x=lenOf g x:=by
 cases x with
 |hs id ver=>simp only[lenOf];rw[h.one]
 |t x=>cases x<;>rfl
 |_=>rfl
def zW0{g g':Look}{x:AV}(h:Ag g g' (names depth x)):added g' x=added g x:=by
 unfold added;split
 ·rfl
 exact zPC h
def zWG{P:Program}{g g':Look}{t:TypeId}{x:AV}{lo hi mx:Option Int}(h:Ag g g' (names depth x)):slice P g' t x lo hi mx=slice P g t x lo hi mx:=by
 unfold slice;cases und P t with
 |none=>rfl
 |some d =>
  cases x with
  |hs id ver=>cases d<;>first|rfl|(simp only;rw[h.one])
  |hsub id ver a b=>cases d<;>first|rfl|(simp only;rw[h.one])
  |t x=>cases d<;>cases x<;>rfl
  |_=>cases d<;>rfl
def zO4{P:Program}{g g':Look}{t:TypeId}{x:AV}{i:Int}(h:Ag g g' (names depth x)):indexAddr P g' t x i=indexAddr P g t x i:=by
 unfold indexAddr;cases und P t with
 |none=>rfl
 |some d =>
  cases x with
  |hs id ver=>cases d<;>first|rfl|(simp only;rw[h.one])
  |hsub id ver a b=>cases d<;>first|rfl|(simp only;rw[h.one])
  |t x=>cases d<;>cases x<;>rfl
  |_=>cases d<;>rfl
def zUQ{P:Program}{g g':Look}{nid:Nat}{t t':TypeId}{s x:AV}(h:Ag g g' (names depth s))(h':Ag g g' (names depth x)):append P g' nid t t' s x=append P g nid t t' s x:=by
 unfold append;rw[zW0 h'];cases s with
 |hs id ver=>simp only[h.one]
 |t x=>cases x<;>rfl
 |_=>rfl
def zRM{P:Program}{g g':Look}{nid:Nat}{s d:TypeId}{x:AV}(h:Ag g g' (names depth x)):convert P g' nid s d x=convert P g nid s d x:=by
 have e:=zPC h;unfold convert;split
 ·rfl
 ·rfl
 ·rfl
 ·rw[e]
 rfl
def zOT{g g':Look}{x:AV}(h:Ag g g' (names depth x)):vT g' x=vT g x:=by
 cases x with
 |mp id=>simp only[vT];rw[h.one]
 |t x=>cases x<;>rfl
 |_=>rfl
def zRT{P:Program}{g g':Look}{t:TypeId}{x i:AV}{ok:Bool}(h:Ag g g' (names depth x)):qV P g' t x i ok=qV P g t x i ok:=by
 unfold qV;rw[zOT h]
def zLq{P:Program}{g g':Look}{t:TypeId}{x i v:AV}(h:Ag g g' (names depth x)):qA P g' t x i v=qA P g t x i v:=by
 unfold qA;cases und P t with
 |none=>rfl
 |some d =>
  cases d with
  |map key elem =>
   cases x with
   |mp id =>
    cases i with
    |t k =>
     have h1:g' id=g id:=h.one;simp only[h1]
    |_=>rfl
   |_=>rfl
  |_=>rfl
def zWW {C:Cfg} {ρ:Oracle} {g g':Look} {nid:Nat} {T:Env} {o:Oper} {r:Out×Patch} (h:exec1 C ρ g nid T o=some r) (ha:Ag g g' (foot C g T o)) :
  exec1 C ρ g' nid T o=some r:=by
 unfold exec1 at h ⊢;unfold foot at ha;cases hH:o.op<;>rw[hH] at h ha<;>(try simp only at h ha ⊢)<;>try exact h
 case makeFunc fn a b=>cases fn<;>exact h
 case buildSlice t n ps =>
  unfold wU at h ⊢;rw[zIn ha];exact h
 case load t a =>
  unfold load at h ⊢;simp only[zOF ha];exact h
 case store t a x =>
  have h1:=zVM ha.right;unfold kD at h ⊢;have h2:(match zN T a with
    |.el _ _ _ _=>uS g' (zN T x)
    |_=>(zN T x,[]))=(match zN T a with
    |.el _ _ _ _=>uS g (zN T x)
    |_=>(zN T x,[])):=by rw[h1]
  have h3:∀(q:Patch) cs,storeAt (upd g' q) (zN T a) cs=storeAt (upd g q) (zN T a) cs:=fun q cs=>zRZ fun i hi=>zH9 (ha.left i hi)
  simp only[h1,h3] at h ⊢;exact h
 case convert s d x=>rw[zRM ha];exact h
 case slice t x lo hi mx =>
  unfold zBE at h ⊢;simp only[zWG ha];exact h
 case indexAddr t x i =>
  unfold wG at h ⊢;simp only[zO4 ha];exact h
 case next x b =>
  cases b with
  |false=>exact h
  |true =>
   simp only at h ⊢;generalize zN T x=v at h ha;unfold zE8 at h ⊢;cases v with
   |box id off =>
    cases off with
    |zero=>simp only at h ⊢;rw[ha.one];exact h
    |succ n=>exact h
   |_=>exact h
 case call c =>
  unfold jM at h ⊢;cases hc:c.callee with
  |value f =>
   rw[hc] at h ha;simp only at h ha ⊢;generalize zN T f=v at h ha;cases v with
   |t x =>
    cases x with
    |fn f=>exact zPg h ha
    |_=>exact h
   |fn f first captured=>exact zPg h ha
   |yld id=>exact zIo h ha.left ha.right
   |_=>exact h
  |builtin b =>
   rw[hc] at h ha
   by_cases n5:b=.panic
   ·subst n5;exact h
   have h':vH C.P g nid b c.argTypes.toList (opds T c.args.toList)=some r:=by
    cases b<;>first|exact h|exact absurd rfl n5
   suffices hs:vH C.P g' nid b c.argTypes.toList (opds T c.args.toList)=some r by
    cases b<;>first|exact hs|exact absurd rfl n5
   clear h;have h:=h';clear h';simp only at ha;unfold vH at h ⊢;split at h
   ·rename_i t hE nG;generalize opds T c.args.toList=l at h ha;unfold xLen at h ⊢
    match l,h,ha with
    |[x],h,ha =>
     have hx:Ag g g' (names depth x):=Ag.catMap (f:=names depth) (l:=[x]) ha (.head _);have e:=zWH hx;simp only at h ⊢;split
     ·rename_i hu;rw[hu] at h;exact h
     ·rename_i hu;rw[hu] at h;exact h
     ·rename_i hu;rw[hu] at h;rw[e];exact h
     rename_i h1 h2 h3;split at h
     ·rename_i hu;exact absurd hu (h1 _ _)
     ·rename_i hu;exact(h3 _ hu rfl).elim
     ·rename_i hu;exact(h2 _ hu).elim
     cases h
    |[],h,_=>exact h
    |_::_::_,h,_=>exact h
   ·rename_i s x nG nw;rw[nw] at ha;have q5:Ag g g' (names depth s):=Ag.catMap (f:=names depth) (l:=[s,x]) ha (.head _);have mA:Ag g g' (names depth x):=Ag.catMap (f:=names depth) (l:=[s,x]) ha (.tail _ (.head _));rw[zUQ q5 mA];exact h
   ·exact h
   ·exact h
   cases h
  |invoke r m=>rw[hc] at h;cases h
 case lookup t x i ok=>rw[zRT ha];exact h
 case insert t m k v=>rw[zLq ha];exact h
 case mapUpdate t m k v=>rw[zLq ha];exact h
 case makeMap t r=>cases r<;>exact h
def zTD{l:List Nat}{k:Nat}(h:l.length≤k):getN l k=0:=by
 unfold getN;rw[yP,List.getElem?_eq_none h];rfl
def zUj{l:List Nat}{k e:Nat}:getN (l.take k) e=if e<k then getN l e else 0:=by
 unfold getN;rw[yP,yP,List.getElem?_take];split<;>rfl
def zDC:∀(os:List Oper) (acc:List Nat),∃t,zBJ acc os=acc++t∧t.length=os.length ∧
  ∀(k:Nat) o,os[k]?=some o→getN (zBJ acc os) (acc.length+k)=zCb ((zBJ acc os).take (acc.length+k)) o.after.toList
 |[],acc=>⟨[],by simp [zBJ],rfl,fun k o h=>by simp at h⟩
 |o::os,acc=>by
  unfold zBJ;simp only;obtain⟨t,h1,h2,h3⟩:=zDC os (acc++[zCb acc o.after.toList]);refine⟨zCb acc o.after.toList::t,by rw[h1];simp,by simp [h2],fun k o' hk=>?_⟩;cases k with
  |zero =>
   simp only[List.getElem?_cons_zero,Option.some.injEq] at hk;subst hk;rw[Nat.add_zero,h1,List.append_assoc,List.take_left];refine zQM ?_;simp
  |succ k =>
   have:=h3 k o' (by simpa using hk);rw[List.length_append,List.length_singleton] at this;have e:acc.length+1+k=acc.length+(k+1):=by omega
   rw[e] at this;exact this
def zRB{os:List Oper}{k:Nat}{o:Oper}(h:os[k]?=some o):getN (masks os) k=zCb ((masks os).take k) o.after.toList:=by
 obtain⟨_,_,_,h3⟩:=zDC os [];have:=h3 k o h
 simpa [masks] using this
def zHJ{M:List Nat}{i:Nat}:∀ {es:List Edge},(zCb M es).testBit i=true→∃e ∈ es,Region.binds .any e=true∧(i=e.on∨(getN M e.on).testBit i=true)
 |[],h=>by simp [zCb] at h
 |e::es,h=>by
  unfold zCb at h;split at h
  ·rename_i hb;have ki:∀a b:Nat,Nat.lor a b=a ||| b:=fun _ _=>rfl
   have sk:Nat.shiftLeft 1 e.on=1 <<< e.on:=rfl;rw[ki,ki,sk,Nat.testBit_or,Nat.testBit_or,Bool.or_eq_true,Bool.or_eq_true] at h;rcases h with (h|h)|h
   ·refine⟨e,.head _,hb,.inl ?_⟩;rw[Nat.one_shiftLeft] at h;have:=Nat.testBit_two_pow (n:=e.on) (m:=i);rw[this] at h;exact(of_decide_eq_true h).symm
   ·exact⟨e,.head _,hb,.inr h⟩
   obtain⟨e',h1,h2,h3⟩:=zHJ h;exact⟨e',List.mem_cons_of_mem _ h1,h2,h3⟩
  obtain⟨e',h1,h2,h3⟩:=zHJ h;exact⟨e',List.mem_cons_of_mem _ h1,h2,h3⟩
def zKW(hA:List Oper)(D:Nat→Bool):Prop:=∀j o,hA[j]?=some o→D j=true→∀e ∈ o.after.toList,Region.binds .any e=true→D e.on=true
def zJU{hA:List Oper}{D:Nat→Bool}(hc:zKW hA D):∀(j:Nat) (o:Oper),hA[j]?=some o→(∀e ∈ o.after.toList,Region.binds .any e=true→D e.on=true) →
  ∀i,(getN (masks hA) j).testBit i=true→D i=true:=by
 intro j
 induction j using Nat.strongRecOn with
 |_ j ih =>
  intro o ho hd i hi;rw[zRB ho] at hi;obtain⟨e,he,hb,h⟩:=zHJ hi;have rK:=hd e he hb;rcases h with h|h
  ·rw[h];exact rK
  rw[zUj] at h;split at h
  ·rename_i hP;cases rb:hA[e.on]? with
   |none =>
    obtain⟨t,h1,h2,_⟩:=zDC hA [];have ka:(masks hA).length=hA.length:=by unfold masks;rw[h1];simpa using h2
    rw[zTD (by rw[ka];exact List.getElem?_eq_none_iff.1 rb)] at h;simp at h
   |some oe=>exact ih e.on hP oe rb (hc e.on oe rb rK) i h
  simp at h
def zH2:∀ {os:List Oper} {i:Nat},zJe i os=true→∀(k:Nat) o,os[k]?=some o→∀e ∈ o.after.toList,Region.binds .any e=true→e.on<i+k
 |[],i,_,k,o,h=>by simp at h
 |o::os,i,h,k,o',hk=>by
  unfold zJe at h;rw[Bool.and_eq_true,List.all_eq_true] at h;cases k with
  |zero =>
   simp only[List.getElem?_cons_zero,Option.some.injEq] at hk;subst hk;intro e he hb;have:=h.1 e he;rw[hb] at this;simp only[Bool.not_true,Bool.false_or,Nat.blt_eq] at this;omega
  |succ k =>
   intro e he hb;have:=zH2 h.2 k o' (by simpa using hk) e he hb;omega
def zHS{hA:List Oper}{ms:List Nat}{i:Nat}{a:Oper}:∀ {os:List Oper} {j:Nat},zBP.go hA ms i a j os=true→∀(k:Nat) b,os[k]?=some b →
  (getN ms (j+k)).testBit i=true∨(zB9 hA a b=true∧zB9 hA b a=true)
 |[],j,_,k,b,h=>by simp at h
 |o::os,j,h,k,b,hk=>by
  unfold zBP.go at h;rw[Bool.and_eq_true,Bool.or_eq_true,Bool.and_eq_true] at h;cases k with
  |zero =>
   simp only[List.getElem?_cons_zero,Option.some.injEq] at hk;subst hk;exact h.1
  |succ k =>
   have:=zHS h.2 k b (by simpa using hk);have e:j+1+k=j+(k+1):=by omega
   rw[e] at this;exact this
def zF4{hA:List Oper}{ms:List Nat}:∀ {os:List Oper} {i:Nat},zBP hA ms i os=true→∀(k k':Nat) a b,k<k'→os[k]?=some a→os[k']?=some b →
  (getN ms (i+k')).testBit (i+k)=true∨(zB9 hA a b=true∧zB9 hA b a=true)
 |[],i,_,k,k',a,b,_,h,_=>by simp at h
 |o::os,i,h,k,k',a,b,hP,hk,mt=>by
  unfold zBP at h;rw[Bool.and_eq_true] at h;cases k' with
  |zero=>omega
  |succ k' =>
   have e:i+1+k'=i+(k'+1):=by omega
   cases k with
   |zero =>
    simp only[List.getElem?_cons_zero,Option.some.injEq] at hk;subst hk;have:=zHS h.1 k' b (by simpa using mt);rw[e] at this;exact this
   |succ k =>
    have:=zF4 h.2 k k' a b (by omega) (by simpa using hk) (by simpa using mt);have e':i+1+k=i+(k+1):=by omega
    rw[e,e'] at this;exact this
def zGx {hA:List Oper} (h:zCl hA=true) {k k':Nat} {a b:Oper} (hP:k<k') (hk:hA[k]?=some a) (mt:hA[k']?=some b) :
  (getN (masks hA) k').testBit k=true∨(zB9 hA a b=true∧zB9 hA b a=true):=by
 unfold zCl at h;rw[Bool.and_eq_true] at h;have:=zF4 h.2 k k' a b hP hk mt
 rwa [Nat.zero_add,Nat.zero_add] at this
def zEd:∀(l:List Rec) (i:Nat) (a:Rec) (j:Nat),(a,j) ∈ uN i l↔∃k,l[k]?=some a∧j=i+k
 |[],i,a,j=>by simp [uN]
 |x::l,i,a,j=>by
  simp only[uN,List.mem_cons,Prod.mk.injEq,zEd l (i+1)]
  constructor
  ·rintro(⟨rfl,rfl⟩|⟨k,h1,h2⟩)
   ·exact⟨0,rfl,rfl⟩
   exact⟨k+1,by simpa using h1,by omega⟩
  rintro⟨k,h1,h2⟩;cases k with
  |zero=>simp at h1;exact .inl ⟨h1.symm,h2⟩
  |succ k=>exact .inr ⟨k,by simpa using h1,by omega⟩
def zHP:∀(l:List Rec) (i:Nat),zA8 (uN i l)=(uN i l).filter fun x=>busy x.1
 |[],i=>rfl
 |x::l,i=>by
  simp only[uN,zA8,List.filter_cons];rw[zHP l (i+1)];cases hb:busy x<;>simp
def zNM{ms:List Nat}:∀ {l:List (Rec×Nat)},calm ms l=true→l.Pairwise fun x y=>(getN ms y.2).testBit x.2=true∨clash x.1 y.1=false
 |[],_=>.nil
 |(a,i)::l,h=>by
  unfold calm at h;rw[Bool.and_eq_true,List.all_eq_true] at h;refine .cons (fun y hy=>?_) (zNM h.2);obtain⟨b,j⟩:=y;have:=h.1 (b,j) hy
  simpa using this
def zGg:∀(l:List Rec) (i:Nat),(uN i l).Pairwise fun x y=>x.2<y.2
 |[],i=>.nil
 |x::l,i=>by
  refine .cons (fun y hy=>?_) (zGg l (i+1));obtain⟨b,j⟩:=y;obtain⟨k,_,h2⟩:=(zEd l (i+1) b j).1 hy;simp only;omega
def zHV{α:Type}{R:α→α→Prop}{S:α→α→Prop}(hs:∀a,¬ S a a)(mF:∀a b,S a b→¬ S b a):∀ {l:List α},l.Pairwise R→l.Pairwise S→∀ {x y:α},x ∈ l→y ∈ l→S x y→R x y
 |[],_,_,_,_,h,_,_=>by cases h
 |a::l,hR,hS,x,y,hx,hy,h=>by
  obtain⟨r1,r2⟩:=List.pairwise_cons.1 hR;obtain⟨s1,s2⟩:=List.pairwise_cons.1 hS;rcases List.mem_cons.1 hx with ex|rL
  ·rcases List.mem_cons.1 hy with ey|re
   ·subst ex;subst ey;exact absurd h (hs _)
   subst ex;exact r1 y re
  rcases List.mem_cons.1 hy with ey|re
  ·subst ey;exact absurd (s1 x rL) (mF _ _ h)
  exact zHV hs mF r2 s2 rL re h
structure Free (a b:Rec):Prop where
 mr:∀id ∈ a.mods,id ∉ b.reads
 rm:∀id ∈ a.reads,id ∉ b.mods
 mm:∀id ∈ a.mods,id ∉ b.mods
theorem Free.symm{a b:Rec}(h:Free a b):Free b a:=⟨fun id h1 h2=>h.rm id h2 h1,fun id h1 h2=>h.mr id h2 h1,fun id h1 h2=>h.mm id h2 h1⟩
def zGl{a b:List Nat}(h:zKV a b=true):∀id ∈ a,id ∉ b:=fun id hid hb=>by
 have:=List.all_eq_true.1 h id hid;rw[zDU.2 hb] at this;cases this
def zRV{a b:Rec}(h:clash a b=false):Free a b:=by
 unfold clash at h;simp only[Bool.not_eq_false',Bool.and_eq_true] at h;exact⟨zGl h.1.1,zGl h.1.2,zGl h.2⟩
def zNw{a b:Rec}(h:busy a=false):Free a b:=by
 unfold busy at h;simp only[Bool.not_eq_false',Bool.and_eq_true,List.isEmpty_iff] at h;have hm:a.mods=[]:=by unfold Rec.mods;rw[h.2];rfl
 exact⟨fun id hid=>(by rw[hm] at hid;cases hid),fun id hid=>(by rw[h.1] at hid;cases hid),fun id hid=>(by rw[hm] at hid;cases hid)⟩
def zF2 {ms:List Nat} {l:List Rec} (h:calm ms (zA8 (uN 0 l))=true) {i j:Nat} {a b:Rec} (hP:i<j) (ha:l[i]?=some a) (hb:l[j]?=some b) :
  (getN ms j).testBit i=true∨Free a b:=by
 cases rM:busy a with
 |false=>exact .inr (zNw rM)
 |true =>
  cases rN:busy b with
  |false=>exact .inr (zNw rN).symm
  |true =>
   have hp:=zNM h;rw[zHP] at hp;have hs:=(zGg l 0).filter (fun x=>busy x.1);have h1:(a,i) ∈ (uN 0 l).filter fun x=>busy x.1:=List.mem_filter.2 ⟨(zEd l 0 a i).2 ⟨i,ha,by omega⟩,rM⟩
   have h2:(b,j) ∈ (uN 0 l).filter fun x=>busy x.1:=List.mem_filter.2 ⟨(zEd l 0 b j).2 ⟨j,hb,by omega⟩,rN⟩
   rcases zHV (S:=fun x y:Rec×Nat=>x.2<y.2) (fun a=>Nat.lt_irrefl _) (fun a b h=>Nat.lt_asymm h) hp hs h1 h2 hP with h3|h3
   ·exact .inl h3
   exact .inr (zRV h3)
def envD(D:Nat→Bool):Nat→List Oper→List Rec→Env→Env
 |i,o::os,r::rs,T=>envD D (i+1) os rs (if D i=true then putT T o.dst r.v else T)
 |_,_,_,T=>T
def memD(D:Nat→Bool):Nat→List Rec→Look→Look
 |i,r::rs,g=>memD D (i+1) rs (if D i=true then upd g r.p else g)
 |_,[],g=>g
def shift(n k:Nat):n+1+k=n+(k+1):=by omega
def zCA{T:Env}{d:Option Tmp}{v:AV}{t:Nat}:get (putT T d v) t=if d=some t then v else get T t:=by
 cases d with
 |none=>simp [putT]
 |some d =>
  simp only[putT,get,Option.some.injEq];cases hb:Nat.beq d t with
  |true=>have:=Nat.eq_of_beq_eq_true hb;simp [this]
  |false=>have:=Nat.ne_of_beq_eq_false hb;simp [this]
def zHn{D D':Nat→Bool}{t:Nat}:∀(os:List Oper) (rs:List Rec) (i:Nat) (T T':Env),get T' t=get T t →
  (∀(k:Nat) o,os[k]?=some o→k<rs.length→o.dst=some t→D' (i+k)=D (i+k))→get (envD D' i os rs T') t=get (envD D i os rs T) t
 |[],rs,i,T,T',h,_=>by unfold envD;exact h
 |o::os,[],i,T,T',h,_=>by unfold envD;exact h
 |o::os,r::rs,i,T,T',h,hd=>by
  unfold envD;refine zHn os rs (i+1) _ _ ?_ fun k o' hk hl ho=>?_
  ·by_cases hU:o.dst=some t
   ·have:=hd 0 o rfl (by simp) hU;rw[Nat.add_zero] at this;rw[this]
    by_cases hD:D i=true
    ·rw[if_pos hD,if_pos hD,zCA,zCA,if_pos hU,if_pos hU]
    rw[if_neg hD,if_neg hD];exact h
   have e1:∀(c:Bool) (T:Env),get (if c=true then putT T o.dst r.v else T) t=get T t:=fun c T=>by
    cases c
    ·rfl
    simp only[if_true];rw[zCA,if_neg hU]
   rw[e1,e1];exact h
  have:=hd (k+1) o' (by simpa using hk) (by simpa using hl) ho;have e:i+1+k=i+(k+1):=by omega
  rw[e];exact this
def zPS{D D':Nat→Bool}{j t:Nat}{oj:Oper}{rj:Rec}:∀(os:List Oper) (rs:List Rec) (i:Nat) (T:Env),i≤j→os[j - i]?=some oj→rs[j - i]?=some rj →
  D j=false→(∀x,D' x=(D x||decide (x=j)))→(∀(k:Nat) o,os[k]?=some o→j<i+k→D (i+k)=true→oj.dst=some t→o.dst≠some t) →
  get (envD D' i os rs T) t=if oj.dst=some t then rj.v else get (envD D i os rs T) t
 |[],rs,i,T,_,h,_,_,_,_=>by simp at h
 |o::os,[],i,T,_,_,h,_,_,_=>by simp at h
 |o::os,r::rs,i,T,qu,h1,h2,hD,mf,m2=>by
  unfold envD
  by_cases hi:i=j
  ·subst hi;simp only[Nat.sub_self,List.getElem?_cons_zero,Option.some.injEq] at h1 h2;subst h1;subst h2;have nx:D' i=true:=by rw[mf];simp
   have mU:¬ (D i=true):=by rw[hD];simp
   rw[if_pos nx,if_neg mU]
   by_cases hU:o.dst=some t
   ·rw[if_pos hU]
    -- nothing behind writes to it
    have key:∀(os:List Oper) (rs:List Rec) (n:Nat) (T:Env),(∀(k:Nat) o',os[k]?=some o'→D' (n+k)=true→o'.dst≠some t)→get (envD D' n os rs T) t=get T t:=by
     intro os
     induction os with
     |nil=>intro rs n T _;unfold envD;rfl
     |cons x os ih =>
      intro rs n T hh;cases rs with
      |nil=>unfold envD;rfl
      |cons y rs =>
       unfold envD;rw[ih rs (n+1) _ fun k o' hk hd=>hh (k+1) o' (by simpa using hk) (by rw[← shift];exact hd)]
       by_cases mY:D' n=true
       ·rw[if_pos mY,zCA,if_neg (hh 0 x rfl mY)]
       rw[if_neg mY]
    rw[key os rs (i+1) _ fun k o' hk hd=>by
     refine m2 (k+1) o' (by simpa using hk) (by omega) ?_ hU;rw[mf] at hd;have e:i+1+k=i+(k+1):=by omega
     rw[e] at hd;have:decide (i+(k+1)=i)=false:=by simp
     rw[this,Bool.or_false] at hd;exact hd]
    rw[zCA,if_pos hU]
   rw[if_neg hU];refine zHn os rs (i+1) _ _ (by rw[zCA,if_neg hU]) fun k o' _ _ _=>?_
   rw[mf];have:decide (i+1+k=i)=false:=by simp;omega
   rw[this,Bool.or_false]
  have kc:decide (i=j)=false:=by simp [hi]
  have nx:D' i=D i:=by rw[mf,kc,Bool.or_false]
  rw[nx];have e:j - i=(j - (i+1))+1:=by omega
  rw[e] at h1 h2;exact zPS os rs (i+1) _ (by omega) (by simpa using h1) (by simpa using h2) hD mf fun k o' hk hP hd hU=>m2 (k+1) o' (by simpa using hk) (by omega) (by rw[← shift];exact hd) hU
def zM9{g g':Look}{p:Patch}{id:Nat}(h:g' id=g id):upd g' p id=upd g p id:=zH9 h
def zCN{g:Look}{p:Patch}{id:Nat}(h:id ∉ p.map (·.1)):upd g p id=g id :=
 zEf fun o ho=>h (List.mem_map.2 ⟨(id,o),ho,rfl⟩)
def zZO{p:Patch}{id:Nat}(h:id ∈ p.map (·.1)):∀(g g':Look),upd g' p id=upd g p id:=by
 induction p with
 |nil=>cases h
 |cons x p ih =>
  obtain⟨i,o⟩:=x;intro g g';unfold upd
  by_cases hm:id ∈ p.map (·.1)
  ·exact ih hm _ _
  rw[zCN hm,zCN hm];simp only[List.map_cons,List.mem_cons] at h;have:id=i:=h.resolve_right hm;subst this;rw[Nat.beq_refl]
def zE6{D D':Nat→Bool}{id:Nat}:∀(rs:List Rec) (i:Nat) (g g':Look),g' id=g id→(∀(k:Nat) r,rs[k]?=some r→id ∈ r.mods→D' (i+k)=D (i+k)) →
  memD D' i rs g' id=memD D i rs g id
 |[],i,g,g',h,_=>by unfold memD;exact h
 |r::rs,i,g,g',h,hd=>by
  unfold memD;refine zE6 rs (i+1) _ _ ?_ fun k r' hk hm=>?_
  ·by_cases hm:id ∈ r.mods
   ·have:=hd 0 r rfl hm;rw[Nat.add_zero] at this;rw[this]
    by_cases hD:D i=true
    ·rw[if_pos hD,if_pos hD];exact zM9 h
    rw[if_neg hD,if_neg hD];exact h
   have e1:∀(c:Bool) (g:Look),(if c=true then upd g r.p else g) id=g id:=fun c g=>by
    cases c
    ·rfl
    simp only[if_true];exact zCN hm
   rw[e1,e1];exact h
  have:=hd (k+1) r' (by simpa using hk) hm;have e:i+1+k=i+(k+1):=by omega
  rw[e];exact this
def zPw{D D':Nat→Bool}{j id:Nat}{rj:Rec}:∀(rs:List Rec) (i:Nat) (g:Look),i≤j→rs[j - i]?=some rj →
  D j=false→(∀x,D' x=(D x||decide (x=j)))→(∀(k:Nat) r,rs[k]?=some r→j<i+k→D (i+k)=true→id ∈ rj.mods→id ∉ r.mods) →
  memD D' i rs g id=upd (memD D i rs g) rj.p id
 |[],i,g,_,h,_,_,_=>by simp at h
 |r::rs,i,g,qu,h2,hD,mf,m2=>by
  unfold memD
  by_cases hi:i=j
  ·subst hi;simp only[Nat.sub_self,List.getElem?_cons_zero,Option.some.injEq] at h2;subst h2;have nx:D' i=true:=by rw[mf];simp
   have mU:¬ (D i=true):=by rw[hD];simp
   rw[if_pos nx,if_neg mU];have h9:∀k,D' (i+1+k)=D (i+1+k):=fun k=>by
    rw[mf];have:decide (i+1+k=i)=false:=by simp;omega
    rw[this,Bool.or_false]
   by_cases hm:id ∈ r.mods
   ·have key:∀(rs:List Rec) (n:Nat) (g:Look),(∀(k:Nat) r',rs[k]?=some r'→D' (n+k)=true→id ∉ r'.mods)→memD D' n rs g id=g id:=by
     intro rs
     induction rs with
     |nil=>intro n g _;unfold memD;rfl
     |cons y rs ih =>
      intro n g hh;unfold memD;rw[ih (n+1) _ fun k r' hk hd=>hh (k+1) r' (by simpa using hk) (by rw[← shift];exact hd)]
      by_cases mY:D' n=true
      ·rw[if_pos mY,zCN (hh 0 y rfl mY)]
      rw[if_neg mY]
    rw[key rs (i+1) _ fun k r' hk hd=>by
     refine m2 (k+1) r' (by simpa using hk) (by omega) ?_ hm;rw[h9] at hd;have e:i+1+k=i+(k+1):=by omega
     rw[← e];exact hd]
    exact zZO hm _ _
   rw[zCN hm];exact zE6 rs (i+1) _ _ (zCN hm) fun k r' _ _=>h9 k
  have kc:decide (i=j)=false:=by simp [hi]
  have nx:D' i=D i:=by rw[mf,kc,Bool.or_false]
  rw[nx];have e:j - i=(j - (i+1))+1:=by omega
  rw[e] at h2;exact zPw rs (i+1) _ (by omega) (by simpa using h2) hD mf fun k r' hk hP hd hm=>m2 (k+1) r' (by simpa using hk) (by omega) (by rw[← shift];exact hd) hm
def Stp(C:Cfg)(ρ:Oracle)(hA:List Oper)(o:Oper)(r:Rec)(T:Env)(g:Look)(n:Nat):Prop :=
 (wanted hA T o=some false∧r=⟨[],.nov,[]⟩)∨(wanted hA T o=some true∧exec1 C ρ g n T o=some (.val r.v,r.p)∧r.reads=foot C g T o)
inductive Tr (C:Cfg) (ρ:Oracle) (hA:List Oper):List Oper→List Rec→Env→Heap→Env→Heap→Prop
 |nil (T:Env) (h:Heap):Tr C ρ hA [] [] T h T h
 |cons {o:Oper} {os:List Oper} {r:Rec} {rs:List Rec} {T:Env} {h:Heap} {T':Env} {h':Heap} (hs:Stp C ρ hA o r T (nth h) h.length) (hg:vU h.length r.p=true)
   (hr:Tr C ρ hA os rs (putT T o.dst r.v) (patch h r.p) T' h'):Tr C ρ hA (o::os) (r::rs) T h T' h'
def zIE{C:Cfg}{ρ:Oracle}{hA:List Oper}:∀ {os:List Oper} {T:Env} {h:Heap} {l:List Rec} {T':Env} {h':Heap},xJ C ρ hA os T h=some (l,T',h')→Tr C ρ hA os l T h T' h'
 |[],T,h,l,T',h',hx=>by
  simp only[xJ,Option.some.injEq,Prod.mk.injEq] at hx;obtain⟨rfl,rfl,rfl⟩:=hx;exact .nil T h
 |o::os,T,h,l,T',h',hx=>by
  unfold xJ at hx;split at hx
  ·cases hx
  ·rename_i hw;split at hx
   ·cases hx
   rename_i l1 T1 h1 hr;cases hx;exact .cons (.inl ⟨hw,rfl⟩) rfl (zIE hr)
  rename_i hw;split at hx
  ·cases hx
  ·cases hx
  rename_i v p he;split at hx
  ·cases hx
  rename_i hg;split at hx
  ·cases hx
  rename_i l1 T1 h1 hr;cases hx;exact .cons (.inr ⟨hw,he,rfl⟩) hg (zIE hr)
def zJJ:∀(h:Heap) (n:Nat) (o:Obj),n≤h.length→(put1 h n o).length=if n=h.length then h.length+1 else h.length
 |[],0,o,_=>rfl
 |[],n+1,o,h=>by simp at h
 |a::h,0,o,_=>by simp [put1]
 |a::h,n+1,o,ml=>by
  simp only[List.length_cons,Nat.add_le_add_iff_right] at ml;simp only[put1,List.length_cons,zJJ h n o ml]
  by_cases he:n=h.length<;>simp [he]
def zFu:∀ {p:Patch} {h:Heap},vU h.length p=true→(∀i,nth (patch h p) i=upd (nth h) p i)∧h.length≤(patch h p).length∧∀id o,(id,o) ∈ p→id<(patch h p).length
 |[],h,_=>⟨fun _=>rfl,Nat.le_refl _,fun _ _ hm=>by cases hm⟩
 |(id,o)::p,h,hg=>by
  have ml:id≤h.length:=by
   unfold vU at hg;split at hg
   ·rename_i hb;rw[Nat.blt_eq] at hb;omega
   split at hg
   ·rename_i hb;have:=Nat.eq_of_beq_eq_true hb;omega
   cases hg
  have ka:=zJJ h id o ml;have sm:vU (put1 h id o).length p=true:=by
   unfold vU at hg;split at hg
   ·rename_i hb;rw[Nat.blt_eq] at hb;rw[ka,if_neg (by omega)];exact hg
   split at hg
   ·rename_i hb;have:=Nat.eq_of_beq_eq_true hb;rw[ka,if_pos this];exact hg
   cases hg
  obtain⟨h1,h2,h3⟩:=zFu sm;have sn:h.length≤(put1 h id o).length:=by rw[ka];split<;>omega
  refine⟨fun i=>?_,Nat.le_trans sn h2,fun i x hm=>?_⟩
  ·unfold patch upd;rw[h1];refine zM9 ?_;rw[zFm];cases hb:Nat.beq i id with
   |true=>have:=Nat.eq_of_beq_eq_true hb;rw[if_pos this]
   |false =>
    have:=Nat.ne_of_beq_eq_false hb;rw[if_neg this];simp only;cases hn:nth h i with
    |some x=>rfl
    |none =>
     simp only;rw[yP,List.getElem?_eq_none_iff] at hn;rw[if_neg (by omega)]
  rcases List.mem_cons.1 hm with hm|hm
  ·cases hm;have:id<(put1 h id o).length:=by rw[ka];split<;>omega
   exact Nat.lt_of_lt_of_le this h2
  exact h3 i x hm
theorem Tr.length{C:Cfg}{ρ:Oracle}{hA os:List Oper}{rs:List Rec}{T T':Env}{h h':Heap}(t:Tr C ρ hA os rs T h T' h'):rs.length=os.length:=by
 induction t with
 |nil=>rfl
 |cons _ _ _ ih=>simp [ih]
def zIK{D:Nat→Bool}:∀(os:List Oper) (rs:List Rec) (i:Nat) (T:Env),(∀x,i≤x→D x=false)→envD D i os rs T=T
 |[],rs,i,T,_=>by unfold envD;rfl
 |o::os,[],i,T,_=>by unfold envD;rfl
 |o::os,r::rs,i,T,h=>by
  unfold envD;rw[if_neg (by rw[h i (Nat.le_refl _)];simp)];exact zIK os rs (i+1) T fun x hx=>h x (by omega)
def zFP{D:Nat→Bool}:∀(rs:List Rec) (i:Nat) (g:Look),(∀x,i≤x→D x=false)→memD D i rs g=g
 |[],i,g,_=>rfl
 |r::rs,i,g,h=>by
  unfold memD;rw[if_neg (by rw[h i (Nat.le_refl _)];simp)];exact zFP rs (i+1) g fun x hx=>h x (by omega)
def zYi{C:Cfg}{ρ:Oracle}{hA:List Oper}:∀(j i:Nat) {os:List Oper} {rs:List Rec} {T T':Env} {h h':Heap} {o:Oper} {r:Rec},Tr C ρ hA os rs T h T' h'→os[j]?=some o→rs[j]?=some r →
  ∃n,h.length≤n∧Stp C ρ hA o r (envD (fun x=>decide (x<i+j)) i os rs T) (memD (fun x=>decide (x<i+j)) i rs (nth h)) n ∧
   ∀j',j'<j→∀r',rs[j']?=some r'→∀id ∈ r'.mods,id<n
 |0,i,_,_,T,T',h,h',o,r,.cons hs hg hr,ho,mb=>by
  simp only[List.getElem?_cons_zero,Option.some.injEq] at ho mb;subst ho;subst mb;refine⟨h.length,Nat.le_refl _,?_,fun j' hj=>by omega⟩;rw[zIK _ _ _ _ (fun x hx=>by simp;omega),zFP _ _ _ (fun x hx=>by simp;omega)];exact hs
 |j+1,i,_,_,T,T',h,h',o,r,.cons (o:=o0) (os:=os) (r:=r0) (rs:=rs) hs hg hr,ho,mb=>by
  obtain⟨n,h1,h2,h3⟩:=zYi j (i+1) hr (by simpa using ho) (by simpa using mb);obtain⟨g1,g2,g3⟩:=zFu hg;refine⟨n,Nat.le_trans g2 h1,?_,fun j' hj r' rf id hid=>?_⟩
  ·have e:i+1+j=i+(j+1):=by omega
   rw[e] at h2;unfold envD memD;rw[if_pos (by simp),if_pos (by simp)];have hl:nth (patch h r0.p)=upd (nth h) r0.p:=funext g1;rw[← hl];exact h2
  cases j' with
  |zero =>
   simp only[List.getElem?_cons_zero,Option.some.injEq] at rf;subst rf;obtain⟨⟨i',x⟩,hx,rfl⟩:=List.mem_map.1 hid;exact Nat.lt_of_lt_of_le (g3 i' x hx) h1
  |succ j'=>exact h3 j' (by omega) r' (by simpa using rf) id hid
def zU1{C:Cfg}{ρ:Oracle}{hA:List Oper}{D:Nat→Bool}:∀ {os:List Oper} {rs:List Rec} {T T':Env} {h h':Heap} (i:Nat),Tr C ρ hA os rs T h T' h'→(∀x,i≤x→x<i+os.length→D x=true) →
  envD D i os rs T=T'∧memD D i rs (nth h)=nth h'
 |_,_,T,_,h,_,i,.nil _ _,_=>⟨by unfold envD;rfl,by unfold memD;rfl⟩
 |_,_,T,T',h,h',i,.cons (r:=r) hs hg hr,hD=>by
  unfold envD memD;rw[if_pos (hD i (Nat.le_refl _) (by simp)),if_pos (hD i (Nat.le_refl _) (by simp))];obtain⟨g1,_,_⟩:=zFu hg;have hl:nth (patch h r.p)=upd (nth h) r.p:=funext g1;rw[← hl];exact zU1 (i+1) hr fun x h1 h2=>hD x (by omega) (by simp;omega)
def zCi:List Bool→Nat
 |[]=>0
 |b::l=>(if b=true then 0 else 1)+zCi l
def zK9:∀ {l:List Bool} {j:Nat},l[j]?=some false→zCi (l.set j true)+1=zCi l
 |[],j,h=>by simp at h
 |b::l,0,h=>by simp at h;subst h;simp [zCi];omega
 |b::l,j+1,h=>by
  have:=zK9 (l:=l) (j:=j) (by simpa using h);simp only[List.set_cons_succ,zCi];omega
def zJ6:∀ {l:List Bool},zCi l=0→∀(j:Nat),j<l.length→l[j]?=some true
 |[],_,j,h=>by simp at h
 |b::l,h,j,hj=>by
  unfold zCi at h;cases b with
  |false=>simp at h
  |true =>
   cases j with
   |zero=>rfl
   |succ j=>simpa using zJ6 (l:=l) (by simpa using h) j (by simpa using hj)
def zFH:∀(n:Nat),zCi (List.replicate n false)=n
 |0=>rfl
 |n+1=>by simp [List.replicate_succ,zCi,zFH n];omega
def zK2{t:Nat}:∀ {l:List Operand},.tmp t ∈ l→t ∈ zLW l
 |[],h=>by cases h
 |x::l,h=>by
  rcases List.mem_cons.1 h with h|h
  ·subst h;exact .head _
  have:=zK2 h;cases x<;>first|exact List.mem_cons_of_mem _ this|exact this
def zUL{T T':Env}{x:Operand}(h:∀t,x=.tmp t→get T' t=get T t):zN T' x=zN T x:=by
 cases x with
 |tmp t=>exact h t rfl
 |_=>rfl
def zWs{hA:List Oper}{T T':Env}{o:Oper}(h:∀t ∈ zPH hA o,get T' t=get T t):wanted hA T' o=wanted hA T o:=by
 unfold wanted;unfold zPH at h;cases hg:o.guard with
 |none=>rfl
 |some jw =>
  obtain⟨j,want⟩:=jw;rw[hg] at h;simp only at h ⊢;cases hj:nth hA j with
  |none=>rfl
  |some oj =>
   rw[hj] at h;simp only at h ⊢;cases hd:oj.dst with
   |none=>rfl
   |some d =>
    rw[hd] at h;simp only at h ⊢;rw[h d (.head _)]
def zGs{hA:List Oper}{x y:Oper}{d:Nat}(h:zB9 hA x y=true)(hd:x.dst=some d):d ∉ looks hA y∧y.dst≠some d:=by
 unfold zB9 at h;rw[hd] at h;simp only[Bool.and_eq_true,Bool.not_eq_true'] at h;refine⟨fun hm=>by rw[zDU.2 hm] at h;exact absurd h.1 (by simp),fun hy=>?_⟩;have h2:=h.2;rw[hy] at h2;simp only[Bool.not_eq_true'] at h2;exact Nat.ne_of_beq_eq_false h2 rfl
def vV(listed:Array Bool):Nat→Bool:=fun i=>listed.getD i false
structure DInv (w0:World) (d0:List Deferred) (k:Nat) (A:Array Oper) (l:List Rec) (T0:Env) (g0:Look) (γ0:G) (wi:World) (listed:Array Bool) (γ:G) (a:Act) (w:World):Prop where
 sz:listed.size=A.size
 hr:HR γ (memD (vV listed) 0 l g0) w
 base:Base w0 γ w
 er:ER γ (memD (vV listed) 0 l g0) (envD (vV listed) 0 A.toList l T0) a
 tsz:k≤a.tmps.size
 nd:a.defers=d0
 fr:Fr γ0 wi γ w
 ext:Ext γ0 g0 γ (memD (vV listed) 0 l g0)
 closed:zKW A.toList (vV listed)
section
variable {C:Cfg} {w0:World} {rr:Option Nat} {e:Nat} {d0:List Deferred} {ρ:Oracle} {A:Array Oper} {l:List Rec} {k:Nat} {T T':Env} {h h':Heap} {Q:Exit→Act→World→Prop} {γ0:G} {wi:World}
theorem zPL (hρ:xX C.P w0 ρ) (hO:uM C w0) (tr:Tr C ρ A.toList A.toList l T h T' h') (mF:zCl A.toList=true) (ko:calm (masks A.toList) (zA8 (uN 0 l))=true)
  (hU:uQ k A.toList=true) {listed:Array Bool} {γ:G} {a:Act} {w:World} (hi:DInv w0 d0 k A l T (nth h) γ0 wi listed γ a w) {j:Nat} (hj:j ∈ Region.ready .any A listed)
  {K:Act→World→Prop} (hK:∀ γ' a' w',DInv w0 d0 k A l T (nth h) γ0 wi (listed.setIfInBounds j true) γ' a' w'→K a' w'):wpOpIn (Wd rr) 0 C.P A Q j K a w:=by
 obtain⟨mZ,o,ho,ny⟩:=mem_ready.1 hj;have nX:j<A.size:=(Array.getElem?_eq_some_iff.1 ho).1;have ng:A.toList[j]?=some o:=by simpa using ho
 have rO:j<listed.size:=by rw[hi.sz];exact nX
 have ka:=tr.length;have so:j<l.length:=by rw[ka];simpa using nX
 obtain⟨r,hr⟩:∃r,l[j]?=some r:=⟨l[j],List.getElem?_eq_getElem so⟩;generalize hD:vV listed=D at *;have mU:D j=false:=by
  rw[← hD];unfold vV;simp only[Array.getD_eq_getD_getElem?,Array.getElem?_eq_getElem rO,Option.getD_some] at mZ ⊢;exact mZ
 have mB:∀e ∈ o.after.toList,Region.binds .any e=true→D e.on=true:=fun e he hb=>by
  rw[← hD];exact ny e (by simpa using he) hb
 have kt:zKW A.toList D:=by rw[← hD];exact hi.closed
 have mf:∀x,vV (listed.setIfInBounds j true) x=(D x||decide (x=j)):=fun x=>by
  rw[← hD];unfold vV
  by_cases hx:x=j
  ·subst hx;simp [Array.getD_eq_getD_getElem?,rO]
  have:j≠x:=fun e=>hx e.symm
  simp [Array.getD_eq_getD_getElem?,Array.getElem?_setIfInBounds_ne this,hx]
 -- what the order says of another one
 have early:∀x,(getN (masks A.toList) j).testBit x=true→D x=true:=fun x hx=>zJU kt j o ng mB x hx
 have late:∀x ox,A.toList[x]?=some ox→(getN (masks A.toList) x).testBit j=true→D x=false:=fun x ox kx hx=>by
  cases m4:D x with
  |false=>rfl
  |true =>
   have:=zJU kt x ox kx (kt x ox kx m4) j hx;rw[mU] at this;cases this
 have recOf:∀x ox,A.toList[x]?=some ox→∃rx,l[x]?=some rx:=fun x ox kx=>by
  have:x<l.length:=by rw[ka];exact zQ kx
  exact⟨l[x],List.getElem?_eq_getElem this⟩
 have operOf:∀x rx,l[x]?=some rx→∃ox,A.toList[x]?=some ox:=fun x rx nh=>by
  have:x<A.toList.length:=by rw[← ka];exact zQ nh
  exact⟨A.toList[x],List.getElem?_eq_getElem this⟩
 -- temporaries that the operation looks at
 have agreeT:∀t ∈ looks A.toList o,get (envD D 0 A.toList l T) t=get (envD (fun x=>decide (x<0+j)) 0 A.toList l T) t:=fun t ht=>by
  refine zHn A.toList l 0 T T rfl fun x ox kx _ rP=>?_
  simp only[Nat.zero_add];rcases Nat.lt_trichotomy x j with hP|nw|mW
  ·rcases zGx mF hP kx ng with hb|⟨nY,_⟩
   ·rw[early x hb];simp [hP]
   exact absurd ht (zGs nY rP).1
  ·subst nw;rw[mU];simp
  rcases zGx mF mW ng kx with hb|⟨_,nY⟩
  ·rw[late x ox kx hb];simp;omega
  exact absurd ht (zGs nY rP).1
 have agreeM:∀id ∈ r.reads,memD D 0 l (nth h) id=memD (fun x=>decide (x<0+j)) 0 l (nth h) id:=fun id hid=>by
  refine zE6 l 0 _ _ rfl fun x rx nh hm=>?_
  simp only[Nat.zero_add];obtain⟨ox,kx⟩:=operOf x rx nh;rcases Nat.lt_trichotomy x j with hP|nw|mW
  ·rcases zF2 ko hP nh hr with hb|hf
   ·rw[early x hb];simp [hP]
   exact absurd hid (hf.mr id hm)
  ·subst nw;rw[mU];simp
  rcases zF2 ko mW hr nh with hb|hf
  ·rw[late x ox kx hb];simp;omega
  exact absurd hm (hf.rm id hid)
 -- the state behind it
 have nextM:memD (vV (listed.setIfInBounds j true)) 0 l (nth h)=upd (memD D 0 l (nth h)) r.p:=funext fun id =>
  zPw l 0 _ (Nat.zero_le _) hr mU mf fun x rx nh hP m4 hm=>by
   rw[Nat.zero_add] at hP m4;obtain⟨ox,kx⟩:=operOf x rx nh;rcases zF2 ko hP hr nh with hb|hf
   ·rw[late x ox kx hb] at m4;cases m4
   exact hf.mm id hm
 have nextT:∀t,get (envD (vV (listed.setIfInBounds j true)) 0 A.toList l T) t=get (putT (envD D 0 A.toList l T) o.dst r.v) t:=fun t=>by
  rw[zCA];refine zPS A.toList l 0 T (Nat.zero_le _) ng hr mU mf fun x ox kx hP m4 sq=>?_
  rw[Nat.zero_add] at hP m4;rcases zGx mF hP ng kx with hb|⟨nY,_⟩
  ·rw[late x ox kx hb] at m4;cases m4
  exact(zGs nY sq).2
 have nextC:zKW A.toList (vV (listed.setIfInBounds j true)):=fun x ox kx hx e he hb=>by
  rw[mf] at hx ⊢;rw[Bool.or_eq_true] at hx ⊢;rcases hx with hx|hx
  ·exact .inl (kt x ox kx hx e he hb)
  have:=of_decide_eq_true hx;subst this;rw[ng] at kx;cases kx;exact .inl (mB e he hb)
 have sr:∀d,o.dst=some d→d<a.tmps.size:=fun d hd=>by
  have key:∀ {os:List Oper} {n:Nat},uQ k os=true→os[n]?=some o→d<k:=by
   intro os
   induction os with
   |nil=>intro n _ hn;simp at hn
   |cons x os ih =>
    intro n hx hn;obtain⟨h1,h2⟩:=zEM hx;cases n with
    |zero=>simp only[List.getElem?_cons_zero,Option.some.injEq] at hn;subst hn;exact h1 d hd
    |succ n=>exact ih h2 (by simpa using hn)
  exact Nat.lt_of_lt_of_le (key hU ng) hi.tsz
 have goOn:∀u w' γ',Ext γ (memD D 0 l (nth h)) γ' (upd (memD D 0 l (nth h)) r.p)→HR γ' (upd (memD D 0 l (nth h)) r.p) w'→Fr γ w γ' w'→VR γ' (upd (memD D 0 l (nth h)) r.p) r.v u→K (a.put o.dst u) w':=by
  intro u w' γ' e hh f hv;refine hK γ' _ w' ⟨by simp [hi.sz],by rw[nextM];exact hh,hi.base.mono f,fun t=>?_,by rw[zHi];exact hi.tsz,by rw[zEK];exact hi.nd,hi.fr.trans f,?_,nextC⟩
  ·rw[nextM,nextT];have mo:=hi.er;rw[hD] at mo;exact(mo.mono e).put hv sr t
  rw[nextM];have nZ:=hi.ext;rw[hD] at nZ;exact nZ.trans e
 obtain⟨n,sG,rg,ss⟩:=zYi j 0 tr ng hr;have rQ:wanted A.toList (envD D 0 A.toList l T) o=wanted A.toList (envD (fun x=>decide (x<0+j)) 0 A.toList l T) o :=
  zWs fun t ht=>agreeT t (List.mem_append_right _ ht)
 have mo:=hi.er;have qb:=hi.hr;rw[hD] at mo qb;unfold wpOpIn;simp only[ho];rcases rg with ⟨hw,rR⟩|⟨hw,kw,nz⟩
 ·rw[zCK mo (rQ.trans hw)];simp only[Bool.false_eq_true,if_false];have hp:r.p=[]:=by rw[rR]
  have hv:r.v=.nov:=by rw[rR]
  refine⟨fun _ _=>trivial,goOn undef w γ ?_ ?_ (.refl _ _) ?_⟩
  ·rw[hp];exact .refl _ _
  ·rw[hp];exact qb
  rw[hv];exact .nov
 rw[zCK mo (rQ.trans hw)];simp only[if_true];have rh:exec1 C ρ (memD D 0 l (nth h)) n (envD D 0 A.toList l T) o=some (.val r.v,r.p):=by
  rw[zZa (T:=envD (fun x=>decide (x<0+j)) 0 A.toList l T) fun x hx=>zUL fun t ht=>agreeT t (List.mem_append_left _ (zK2 (by rw[← ht];exact hx)))];exact zWW kw fun id hid=>agreeM id (by rw[nz];exact hid)
 refine zFU hρ hO qb hi.base mo rh (fun i x sH nv=>?_) goOn;have su:i ∈ r.mods:=List.mem_map.2 ⟨(i,x),nv,rfl⟩;have hg:memD D 0 l (nth h) i=none:=by
  have h1:memD D 0 l (nth h) i=memD (fun _=>false) 0 l (nth h) i:=by
   refine zE6 l 0 _ _ rfl fun y ry ri hm=>?_
   rw[Nat.zero_add];obtain⟨oy,sv⟩:=operOf y ry ri;rcases Nat.lt_trichotomy y j with hP|nw|mW
   ·have:=ss y hP ry ri i hm;omega
   ·subst nw;exact mU
   rcases zF2 ko mW hr ri with hb|hf
   ·exact late y oy sv hb
   exact absurd hm (hf.mm i su)
  rw[h1,zFP l 0 _ fun _ _=>rfl,yP];exact List.getElem?_eq_none (by omega)
 refine⟨?_,hg⟩;cases hb:γ.β i with
 |none=>rfl
 |some b=>obtain⟨o',mC,_⟩:=qb.obj i b hb;rw[hg] at mC;cases mC
theorem zVH (hρ:xX C.P w0 ρ) (hO:uM C w0) (tr:Tr C ρ A.toList A.toList l T h T' h') (mF:zCl A.toList=true) (ko:calm (masks A.toList) (zA8 (uN 0 l))=true)
  (hU:uQ k A.toList=true) (kj:DR γ0 (nth h) wi e (get T k) d0) (nL:get T' k=get T k) (sw:e≤wi.heap.size) (qn:rr.isSome=true→get T k=.rnd) (hQ:∀ γ' a' w',Inv w0 rr e k γ' h' T' a' w'→Fr γ0 wi γ' w'→Ext γ0 (nth h) γ' (nth h')→Q .normal a' w') :
  ∀(fuel:Nat) (listed:Array Bool) (γ:G) (a:Act) (w:World),zCi listed.toList≤fuel→DInv w0 d0 k A l T (nth h) γ0 wi listed γ a w→wpAnyIn (Wd rr) 0 C.P .any A Q fuel listed a w:=by
 have n0:∀(listed:Array Bool) (γ:G) (a:Act) (w:World),DInv w0 d0 k A l T (nth h) γ0 wi listed γ a w→(∀x,x<A.size→vV listed x=true)→Q .normal a w:=by
  intro listed γ a w hi hd;obtain⟨h1,h2⟩:=zU1 (D:=vV listed) 0 tr fun x _ hx=>hd x (by simpa using hx)
  have e1:=hi.er;have e2:=hi.hr;have e3:=hi.ext;rw[h1,h2] at e1;rw[h2] at e2 e3;exact hQ γ a w ⟨e2,hi.base,e1,hi.tsz,by rw[hi.nd,nL];exact kj.mono e3 hi.fr,Nat.le_trans sw hi.fr.size,fun hh=>by rw[nL];exact qn hh⟩ hi.fr e3
 have nA:∀(listed:Array Bool) (γ:G) (a:Act) (w:World),DInv w0 d0 k A l T (nth h) γ0 wi listed γ a w→Region.ready .any A listed=[]→Q .normal a w:=by
  intro listed γ a w hi he;refine n0 listed γ a w hi ?_;intro x
  induction x using Nat.strongRecOn with
  |_ x ih =>
   intro hx;cases hd:vV listed x with
   |true=>rfl
   |false =>
    have sx:x<listed.size:=by rw[hi.sz];exact hx
    have n1:x ∈ Region.ready .any A listed:=by
     refine mem_ready.2 ⟨?_,A[x],Array.getElem?_eq_getElem hx,fun e he hb=>?_⟩
     ·unfold vV at hd;simp only[Array.getD_eq_getD_getElem?,Array.getElem?_eq_getElem sx,Option.getD_some] at hd ⊢;exact hd
     have nB:=mF;unfold zCl at nB;rw[Bool.and_eq_true] at nB;have:=zH2 nB.1 x A[x] (by simp [hx]) e (by simpa using he) hb;exact ih e.on (by omega) (by omega)
    rw[he] at n1;cases n1
 intro fuel
 induction fuel with
 |zero =>
  intro listed γ a w hu hi;have hz:=zJ6 (Nat.le_zero.1 hu);have hd:∀x,x<A.size→listed[x]?=some true:=fun x hx=>by
   have:=hz x (by simp [hi.sz,hx])
   simpa using this
  refine⟨?_,n0 listed γ a w hi fun x hx=>?_⟩
  ·cases hr:Region.ready .any A listed with
   |nil=>rfl
   |cons x xs =>
    have hx:x ∈ Region.ready .any A listed:=by rw[hr];exact .head _
    obtain⟨h1,o,ho,_⟩:=mem_ready.1 hx;have nE:x<A.size:=(Array.getElem?_eq_some_iff.1 ho).1;rw[Array.getD_eq_getD_getElem?,hd x nE] at h1;cases h1
  unfold vV;rw[Array.getD_eq_getD_getElem?,hd x hx]
  rfl
 |succ fuel ih =>
  intro listed γ a w hu hi;refine⟨nA listed γ a w hi,fun j hj=>?_⟩;refine zPL hρ hO tr mF ko hU hi hj fun γ' a' w' n6=>ih _ γ' a' w' ?_ n6
  obtain⟨mZ,o,ho,_⟩:=mem_ready.1 hj;have nX:j<listed.size:=by rw[hi.sz];exact(Array.getElem?_eq_some_iff.1 ho).1
  have sy:listed.toList[j]?=some false:=by
   simp only[Array.getD_eq_getD_getElem?,Array.getElem?_eq_getElem nX,Option.getD_some] at mZ;simp [nX,mZ]
  have:=zK9 sy;rw[Array.toList_setIfInBounds];omega
end
def zG0{C:Cfg}{ρ:Oracle}{k:Nat}{hA:List Oper}:∀ {hE:List Oper} {T:Env} {h:Heap} {l:List Rec} {T':Env} {h':Heap},xJ C ρ hA hE T h=some (l,T',h')→uQ k hE=true→get T' k=get T k
 |[],T,h,l,T',h',hx,_=>by simp only[xJ,Option.some.injEq,Prod.mk.injEq] at hx;rw[hx.2.1]
 |o::hE,T,h,l,T',h',hx,hd=>by
  obtain⟨mE,k6⟩:=zEM hd;unfold xJ at hx;split at hx
  ·cases hx
  ·split at hx
   ·cases hx
   rename_i l1 T1 h1 hr;cases hx;rw[zG0 hr k6,zDR mE]
  split at hx
  ·cases hx
  ·cases hx
  split at hx
  ·cases hx
  split at hx
  ·cases hx
  rename_i l1 T1 h1 hr;cases hx;rw[zG0 hr k6,zDR mE]
def zXe{C:Cfg}{w0:World}(hm:C.P.follows .mixedOrders=true)(hO:uM C w0)(ρ:Oracle)(hρ:xX C.P w0 ρ):zCw C ρ w0:=by
 intro rr e k m id hA draw st r st' γ a w Q hx hi hp;unfold region at hx;split at hx
 ·cases hx
 rename_i hU;cases draw with
 |true =>
  simp only at hx;split at hx
  ·rename_i l T h mF ke;split at hx
   ·rename_i ko;cases hx;refine wpIn_region_any hm ?_;have n6:DInv w0 a.defers k hA l st.T (nth st.h) γ w (Array.replicate hA.size false) γ a { w with drawn:=w.drawn+1 }:=by
     have m2:∀x,vV (Array.replicate hA.size false) x=false:=fun x=>by
      unfold vV;rw[Array.getD_eq_getD_getElem?,Array.getElem?_replicate];split<;>rfl
     have em:memD (vV (Array.replicate hA.size false)) 0 l (nth st.h)=nth st.h:=zFP l 0 _ fun x _=>m2 x
     have ee:envD (vV (Array.replicate hA.size false)) 0 hA.toList l st.T=st.T:=zIK _ l 0 _ fun x _=>m2 x
     refine⟨by simp,?_,⟨hi.base.1,fun b hb=>hi.base.2 b hb⟩,?_,hi.sz,rfl,⟨Nat.le_refl _,fun _ _ _=>rfl,fun i b hb=>.inr ⟨i,hb⟩,fun _ _ _ hv=>.inl hv,rfl,rfl⟩,?_,fun j o _ hd=>?_⟩
     ·rw[em];exact hi.hr.of_keep fun b _=>rfl
     ·rw[em,ee];exact hi.er
     ·rw[em];exact .refl _ _
     rw[m2] at hd;cases hd
    refine zVH hρ hO (zIE ke) mF ko hU hi.nd (zG0 ke hU) hi.ew hi.ro (fun γ' a' w' i1 f1 e1=>hp γ' a' w' i1 f1 e1.imm (e1.keep m)) hA.size _ γ a _ ?_ n6;rw[Array.toList_replicate,zFH];exact Nat.le_refl _
   cases hx
  cases hx
 |false =>
  simp only at hx;split at hx
  ·cases hx
  ·rename_i T h ke;cases hx;refine wpIn_region ?_;rw[List.range_eq_range'];have:=zDr hρ hO (Q:=Q) hA.toList 0 rfl st.T st.h γ a w none T h ke hi hU (fun γ' a' w' _ i1 f1 e1=>hp γ' a' w' i1 f1 e1.imm (e1.keep m)) (fun γ' a' w' v u hv=>by cases hv)
   simpa using this
  rename_i v T h ke;cases hx;refine wpIn_region ?_;rw[List.range_eq_range'];have:=zDr hρ hO (Q:=Q) hA.toList 0 rfl st.T st.h γ a w (some v) T h ke hi hU (fun γ' a' w' hv=>by cases hv)
   (fun γ' a' w' v' u hv i1 f1 e1 hu=>by cases hv;exact hp γ' a' w' i1 f1 e1.imm (e1.keep m) u hu)
  simpa using this
def zPZ{C:Cfg}{w0:World}(hm:C.P.follows .mixedOrders=true)(hO:uM C w0)(n:Nat):xX C.P w0 (zBg C n) :=
 zO8 hO (fun ρ hρ=>zXe hm hO ρ hρ) n
structure Ask where
 f:FuncId
 args:List AV
 h:Heap
 r:Out×Heap
def Sat(ρ:Oracle)(L:List Ask):Prop:=∀q ∈ L,ρ q.f q.args q.h=some q.r
theorem Sat.nil{ρ:Oracle}:Sat ρ []:=fun _ h=>by simp at h
theorem Sat.append{ρ:Oracle}{L L':List Ask}:Sat ρ (L++L')↔Sat ρ L∧Sat ρ L':=by
 simp only[Sat,List.mem_append];exact⟨fun h=>⟨fun q hq=>h q (.inl hq),fun q hq=>h q (.inr hq)⟩,fun h q hq=>hq.elim (h.1 q) (h.2 q)⟩
def Uses{α:Type}(F:Oracle→Nat→Option α):Prop :=
 ∀ ρ n r,F ρ n=some r→∃L,Sat ρ L∧∀ ρ' n',n≤n'→Sat ρ' L→F ρ' n'=some r
theorem Uses.const{α:Type}(x:Option α):Uses (fun _ _=>x):=fun _ _ _ h=>⟨[],Sat.nil,fun _ _ _ _=>h⟩
theorem Uses.ask(f:FuncId)(args:List AV)(h:Heap):Uses (fun ρ _=>ρ f args h) :=
 fun ρ n r hx=>⟨[⟨f,args,h,r⟩],fun q hq=>by rw[List.mem_singleton.1 hq];exact hx,fun ρ' n' _ hs=>hs ⟨f,args,h,r⟩ (List.mem_singleton.2 rfl)⟩
theorem Uses.bind {α β:Type} {F:Oracle→Nat→Option α} {G:α→Oracle→Nat→Option β} (hF:Uses F) (hG:∀a,Uses (G a)) :
  Uses (fun ρ n=>match F ρ n with|none=>none|some a=>G a ρ n):=by
 intro ρ n r hx;dsimp only at hx;cases hf:F ρ n with
 |none=>rw[hf] at hx;cases hx
 |some a =>
  rw[hf] at hx;obtain⟨L,h1,h2⟩:=hF ρ n a hf;obtain⟨L',h3,h4⟩:=hG a ρ n r hx;refine⟨L++L',Sat.append.2 ⟨h1,h3⟩,fun ρ' n' hn hs=>?_⟩
  show (match F ρ' n' with|none=>none|some a=>G a ρ' n')=some r
  rw[h2 ρ' n' hn (Sat.append.1 hs).1];exact h4 ρ' n' hn (Sat.append.1 hs).2
theorem Uses.congr{α:Type}{F G:Oracle→Nat→Option α}(h:∀ ρ n,F ρ n=G ρ n)(hG:Uses G):Uses F:=by
 have:F=G:=funext fun ρ=>funext fun n=>h ρ n
 rw[this];exact hG
theorem Uses.of {α β:Type} {F:Oracle→Nat→Option α} {H:Oracle→Nat→Option β} (hF:Uses F) (G:α→Oracle→Nat→Option β) (hG:∀a,Uses (G a))
  (h:∀ ρ n,H ρ n=match F ρ n with|none=>none|some a=>G a ρ n):Uses H :=
 Uses.congr h (hF.bind hG)
def zE5(g1:Look)(frz:Patch)(nid:Nat)(f:FuncId)(args:List AV):Uses (fun ρ _=>vY ρ g1 frz nid f args):=by
 unfold vY;cases reach g1 100000 (wT g1 args) [] with
 |none=>exact .const none
 |some ids =>
  dsimp only;cases sub g1 ids with
  |none=>exact .const none
  |some h =>
   dsimp only;refine Uses.of (.ask f (renL g1 ids args) h) (fun a _ _=>match a with
    |(Out.val v,h')=>some (Out.val (xM g1 frz nid ids v h').1,(xM g1 frz nid ids v h').2)
    |(Out.pan v,h')=>some (Out.pan (xM g1 frz nid ids v h').1,(xM g1 frz nid ids v h').2)) (fun a=>.const _) ?_
   intro ρ n;cases ρ f (renL g1 ids args) h with
   |none=>rfl
   |some a=>obtain⟨o,h'⟩:=a;cases o<;>rfl
def zGa(C:Cfg)(g:Look)(nid:Nat)(f:FuncId)(args:List AV):Uses (fun ρ _=>jL C ρ g nid f args):=by
 unfold jL;cases C.byRef f with
 |true =>
  dsimp only;cases yY C.P f with
  |true=>exact zE5 _ _ _ _ _
  |false=>exact .const none
 |false =>
  dsimp only;cases C.prim f (args.map (view g)) with
  |some v=>exact .const _
  |none =>
   dsimp only;cases yY C.P f with
   |true=>exact zE5 _ _ _ _ _
   |false=>exact .const none
def zTA(C:Cfg)(g:Look)(nid:Nat)(T:Env)(c:Call):Uses (fun ρ _=>jM C ρ g nid T c):=by
 unfold jM;cases c.callee with
 |value f =>
  dsimp only;generalize zN T f=v;cases v with
  |t x =>
   cases x with
   |fn f=>exact zGa _ _ _ _ _
   |_=>exact .const none
  |fn f a b=>exact zGa _ _ _ _ _
  |yld id=>exact zE5 _ _ _ _ _
  |_=>exact .const none
 |builtin b=>cases b<;>exact .const _
 |_=>exact .const none
def zIc(C:Cfg)(g:Look)(nid:Nat)(T:Env)(o:Oper):Uses (fun ρ _=>exec1 C ρ g nid T o):=by
 unfold exec1;generalize o.op=op;cases op with
 |call c=>exact zTA _ _ _ _ _
 |makeFunc f a b=>cases f<;>exact .const _
 |next it s=>cases s<;>exact .const _
 |makeMap t r=>cases r<;>exact .const _
 |_=>exact .const _
def zE3(C:Cfg)(k:Nat)(hA:List Oper):∀(l:List Oper) (T:Env) (h:Heap),Uses (fun ρ _=>xR C ρ k hA l T h)
 |[],T,h=>by unfold xR;exact .const _
 |o::hE,T,h=>by
  unfold xR;cases wanted hA T o with
  |none=>exact .const none
  |some b =>
   skip
   cases b with
   |false=>exact zE3 C k hA hE _ _
   |true =>
    dsimp only;cases zAO o with
    |some c =>
     dsimp only;cases deferred T c with
     |none=>exact .const none
     |some d =>
      dsimp only;cases kM k d T with
      |none=>exact .const none
      |some T'=>exact zE3 C k hA hE _ _
    |none =>
    refine Uses.of (zIc C (nth h) h.length T o) (fun a ρ _=>match a with
      |(Out.pan v,p)=>some (some v,T,patch h p)
      |(Out.val v,p)=>xR C ρ k hA hE (putT T o.dst v) (patch h p)) (fun a=>?_) ?_
    ·obtain⟨o',p⟩:=a;cases o' with
     |pan v=>exact .const _
     |val v=>exact zE3 C k hA hE _ _
    intro ρ n;cases exec1 C ρ (nth h) h.length T o with
    |none=>rfl
    |some a=>obtain⟨o,p⟩:=a;cases o<;>rfl
def zHt(C:Cfg)(hA:List Oper):∀(l:List Oper) (T:Env) (h:Heap),Uses (fun ρ _=>xJ C ρ hA l T h)
 |[],T,h=>by unfold xJ;exact .const _
 |o::hE,T,h=>by
  unfold xJ;cases wanted hA T o with
  |none=>exact .const none
  |some b =>
   skip
   cases b with
   |false =>
    dsimp only;refine Uses.of (zHt C hA hE (putT T o.dst .nov) h) (fun a _ _=>some (⟨[],.nov,[]⟩::a.1,a.2.1,a.2.2)) (fun a=>.const _) ?_;intro ρ n;cases xJ C ρ hA hE (putT T o.dst .nov) h with
    |none=>rfl
    |some a=>obtain⟨l,T',h'⟩:=a;rfl
   |true =>
    refine Uses.of (zIc C (nth h) h.length T o) (fun a ρ _=>match a with
      |(Out.pan _,_)=>none
      |(Out.val v,p)=>match vU h.length p with
       |false=>none
       |true=>match xJ C ρ hA hE (putT T o.dst v) (patch h p) with
        |none=>none
        |some (l,T',h')=>some (⟨foot C (nth h) T o,v,p⟩::l,T',h')) (fun a=>?_) ?_
    ·obtain⟨o',p⟩:=a;cases o' with
     |pan v=>exact .const _
     |val v =>
      dsimp only;cases vU h.length p with
      |false=>exact .const _
      |true =>
       dsimp only;refine Uses.of (zHt C hA hE (putT T o.dst v) (patch h p)) (fun b _ _=>some (⟨foot C (nth h) T o,v,p⟩::b.1,b.2.1,b.2.2)) (fun b=>.const _) ?_;intro ρ n;cases xJ C ρ hA hE (putT T o.dst v) (patch h p) with
       |none=>rfl
       |some b=>obtain⟨l,T',h'⟩:=b;rfl
    intro ρ n;cases exec1 C ρ (nth h) h.length T o with
    |none=>rfl
    |some a=>obtain⟨o,p⟩:=a;cases o<;>rfl
def zRO(C:Cfg)(k:Nat)(hA:List Oper)(draw:Bool)(st:St):Uses (fun ρ _=>region C ρ k hA draw st):=by
 unfold region;cases uQ k hA with
 |false=>exact .const none
 |true =>
  dsimp only;cases draw with
  |true =>
   dsimp only;cases zCl hA with
   |false=>exact Uses.const none
   |true =>
    refine Uses.of (zHt C hA hA st.T st.h) (fun a _ _=>match calm (masks hA) (zA8 (uN 0 a.1)) with
      |true=>some (Ex.normal,⟨a.2.1,a.2.2⟩)
      |false=>none) (fun a=>.const _) ?_
    intro ρ n;cases xJ C ρ hA hA st.T st.h with
    |none=>rfl
    |some a=>obtain⟨l,T,h⟩:=a;rfl
  |false =>
   refine Uses.of (zE3 C k hA hA st.T st.h) (fun a _ _=>match a with
     |(none,T,h)=>some (Ex.normal,⟨T,h⟩)
     |(some v,T,h)=>some (Ex.pan v,⟨T,h⟩)) (fun a=>.const _) ?_
   intro ρ n;cases xR C ρ k hA hA st.T st.h with
   |none=>rfl
   |some a=>obtain⟨o,T,h⟩:=a;cases o<;>rfl
def zG8 {gc:St→Option St} {body:Oracle→Nat→St→Option (Ex×St)} (hb:∀st,Uses (fun ρ n=>body ρ n st)) :
  ∀(fuel:Nat) (st:St) (ρ:Oracle) (n:Nat) (r:Ex×St),iter gc (body ρ n) fuel st=some r →
   ∃L,Sat ρ L∧∀ ρ' n' fuel',n≤n'→fuel≤fuel'→Sat ρ' L→iter gc (body ρ' n') fuel' st=some r
 |0,st,ρ,n,r,hx=>by simp [iter] at hx
 |fuel+1,st,ρ,n,r,hx=>by
  unfold iter at hx;cases hg:gc st with
  |none=>rw[hg] at hx;cases hx
  |some st1 =>
   rw[hg] at hx;dsimp only at hx;cases rk:body ρ n st1 with
   |none=>rw[rk] at hx;cases hx
   |some a =>
    obtain⟨e,st2⟩:=a;obtain⟨L,h1,nC⟩:=hb st1 ρ n _ rk;have h2:∀ ρ' n',n≤n'→Sat ρ' L→body ρ' n' st1=some (e,st2):=nC;clear nC;rw[rk] at hx;have stop:∀(hr:some (e,st2)=some r),(∀x,e=.normal→x=fuel→False)→∃L,Sat ρ L∧∀ ρ' n' fuel',n≤n'→fuel+1≤fuel'→Sat ρ' L→iter gc (body ρ' n') fuel' st=some r:=by
     intro hr kc;refine⟨L,h1,fun ρ' n' fuel' hn hf hs=>?_⟩;obtain⟨f',rfl⟩:∃f',fuel'=f'+1:=⟨fuel' - 1,by omega⟩;unfold iter;rw[hg];dsimp only;rw[h2 ρ' n' hn hs];cases e with
     |normal=>exact(kc fuel rfl rfl).elim
     |_=>exact hr
    cases e with
    |normal =>
     dsimp only at hx;obtain⟨L',h3,h4⟩:=zG8 hb fuel st2 ρ n r hx;refine⟨L++L',Sat.append.2 ⟨h1,h3⟩,fun ρ' n' fuel' hn hf hs=>?_⟩;obtain⟨f',rfl⟩:∃f',fuel'=f'+1:=⟨fuel' - 1,by omega⟩;unfold iter;rw[hg];dsimp only;rw[h2 ρ' n' hn (Sat.append.1 hs).1];exact h4 ρ' n' f' hn (by omega) (Sat.append.1 hs).2
    |_=>exact stop hx (fun _ h=>by cases h)
def zTP(C:Cfg)(g:Look)(nid:Nat)(f:AV)(args:List AV):Uses (fun ρ _=>zFI C ρ g nid f args):=by
 unfold zFI;cases f with
 |t x =>
  cases x with
  |fn f=>exact zGa _ _ _ _ _
  |_=>exact .const none
 |fn f a b=>exact zGa _ _ _ _ _
 |_=>exact .const none
def zSd(C:Cfg)(k:Nat)(keep:Nat→Option (List Nat))(f:Operand)(ps:List Nat)(asg body:Code)(st:St):Uses (fun ρ _=>zED C ρ k keep f ps asg body st):=by
 unfold zED;cases zDT k (xP keep body) st.T with
 |none=>exact .const none
 |some T' =>
  cases kM k .nov st.T with
  |none=>exact .const none
  |some T1 =>
   try dsimp only
   refine Uses.of (zTP C (upd (nth st.h) [(st.h.length,.loop ⟨k,kfOf keep,ps,asg,body⟩ T' 0 none)]) (st.h.length+1) (zN st.T f) [.yld st.h.length]) (fun a _ _=>match a with
    |(Out.pan _,_)=>none
    |(Out.val _,p)=>match nth (patch (patch st.h [(st.h.length,.loop ⟨k,kfOf keep,ps,asg,body⟩ T' 0 none)]) p) st.h.length with
     |some (.loop c T2 b jump)=>match Nat.beq b 1 with
      |true=>none
      |false=>zEC jump ⟨T1,patch (patch (patch st.h [(st.h.length,.loop ⟨k,kfOf keep,ps,asg,body⟩ T' 0 none)]) p) [(st.h.length,.loop c T2 3 jump)]⟩
     |_=>none) (fun a=>.const _) ?_
   intro ρ n
   try dsimp only
   cases zFI C ρ (upd (nth st.h) [(st.h.length,.loop ⟨k,kfOf keep,ps,asg,body⟩ T' 0 none)]) (st.h.length+1) (zN st.T f) [.yld st.h.length] with
   |none=>rfl
   |some a=>obtain⟨o,p⟩:=a;cases o<;>rfl
def uD(C:Cfg)(m k:Nat)(keep:Nat→Option (List Nat)):∀(c:Code) (st:St),Uses (fun ρ n=>exec C ρ n m k keep c st)
 |.skip,st=>by unfold exec;exact .const _
 |.region _ hA draw,st=>by unfold exec;exact zRO _ _ _ _ _
 |.seq a b,st=>by
  unfold exec;refine Uses.of (uD C m k keep a st) (fun r ρ n=>match r with
    |(Ex.normal,st)=>exec C ρ n m k keep b st
    |r=>some r) (fun r=>?_) ?_
  ·obtain⟨e,st'⟩:=r;cases e with
   |normal=>exact uD C m k keep b st'
   |_=>exact .const _
  intro ρ n
  skip
  cases exec C ρ n m k keep a st with
  |none=>rfl
  |some r=>obtain⟨e,st⟩:=r;cases e<;>rfl
 |.cond c a b,st=>by
  unfold exec;generalize zN st.T c=v;cases v with
  |t x =>
   cases x with
   |bool v=>cases v with
    |true=>exact uD C m k keep a st
    |false=>exact uD C m k keep b st
   |_=>exact .const none
  |_=>exact .const none
 |.block id b,st=>by
  unfold exec;refine Uses.of (uD C m k keep b st) (fun r _ _=>match r with
    |(Ex.exit id',st)=>if id'=id then some (Ex.normal,st) else some (Ex.exit id',st)
    |r=>some r) (fun r=>.const _) ?_
  intro ρ n
  skip
  cases exec C ρ n m k keep b st with
  |none=>rfl
  |some r=>obtain⟨e,st⟩:=r;cases e<;>rfl
 |.loop b,st=>by
  intro ρ n r hx;unfold exec at hx;obtain⟨L,h1,h2⟩:=zG8 (body:=fun ρ n st=>exec C ρ n m k keep b st) (fun st=>uD C m k keep b st) n st ρ n r hx;refine⟨L,h1,fun ρ' n' hn hs=>?_⟩
  show exec C ρ' n' m k keep (.loop b) st=some r
  unfold exec;exact h2 ρ' n' n' hn hn hs
 |.exit id,st=>by unfold exec;exact .const _
 |.scope b,st=>by unfold exec;exact uD C m k keep b st
 |.label _,st=>by unfold exec;exact .const _
 |.ret,st=>by unfold exec;exact .const _
 |.rangeFunc f ps asg body,st=>by unfold exec;exact zSd _ _ _ _ _ _ _ _
 |.goto _,st=>by unfold exec;exact .const none
 |.refuse _,st=>by unfold exec;exact .const none
def zEn(C:Cfg)(f:FuncId)(fn:Func)(m:Nat):∀(ds:List AV) (u:Pn) (T:Env) (h:Heap),Uses (fun ρ _=>leave C ρ f fn m ds u T h)
 |[],none,T,h=>by unfold leave;exact .const _
 |[],some (x,false),T,h=>by unfold leave;exact .const _
 |[],some (x,true),T,h=>by unfold leave;exact .const none
 |v::ds,u,T,h=>by
  cases v with
  |nov=>unfold leave;exact zEn C f fn m ds u T h
  |fn g first captured =>
   unfold leave;cases yY C.P g with
   |false=>exact .const none
   |true =>
    try dsimp only
    refine Uses.of (zE5 (nth h) [] h.length (xG+g) (pnAV u::(first++captured))) (fun a ρ _=>match a with
     |(Out.val v,p)=>match avPn v with
      |some u=>leave C ρ f fn m ds u T (patch h p)
      |none=>none
     |_=>none) (fun a=>?_) ?_
    ·obtain⟨o,p⟩:=a;cases o with
     |pan v=>exact .const none
     |val v =>
      try dsimp only
      cases avPn v with
      |none=>exact .const none
      |some u=>exact zEn C f fn m ds u T (patch h p)
    intro ρ n
    try dsimp only
    cases vY ρ (nth h) [] h.length (xG+g) (pnAV u::(first++captured)) with
    |none=>rfl
    |some a=>obtain⟨o,p⟩:=a;cases o<;>rfl
  |_=>unfold leave;exact .const none
def zD2(C:Cfg)(hA:List Oper):∀(l:List Oper) (T:Env) (h:Heap) (u:Pn),Uses (fun ρ _=>qB C ρ hA l T h u)
 |[],T,h,u=>by unfold qB;exact .const _
 |o::hE,T,h,u=>by
  unfold qB;cases wanted hA T o with
  |none=>exact .const none
  |some b =>
   cases b with
   |false=>exact zD2 C hA hE _ _ _
   |true =>
    try dsimp only
    cases zAS o with
    |true=>exact zD2 C hA hE _ _ _
    |false =>
     try dsimp only
     cases zJc o.op with
     |false=>exact .const none
     |true =>
      refine Uses.of (zIc C (nth h) h.length T o) (fun a ρ _=>match a with
       |(Out.val v,p)=>qB C ρ hA hE (putT T o.dst v) (patch h p) u
       |_=>none) (fun a=>?_) ?_
      ·obtain⟨o',p⟩:=a;cases o' with
       |pan v=>exact .const _
       |val v=>exact zD2 C hA hE _ _ _
      intro ρ n
      try dsimp only
      cases exec1 C ρ (nth h) h.length T o with
      |none=>rfl
      |some a=>obtain⟨o,p⟩:=a;cases o<;>rfl
def zF3(C:Cfg)(m k:Nat)(keep:Nat→Option (List Nat))(c:Code)(st:St)(u:Pn):Uses (fun ρ n=>zE4 (exec C ρ n m k keep c st) u):=by
 refine Uses.of (uD C m k keep c st) (fun a _ _=>some (a.1,a.2,u)) (fun a=>.const _) ?_;intro ρ n
 try dsimp only
 cases exec C ρ n m k keep c st with
 |none=>rfl
 |some a=>rfl
def zNv(C:Cfg)(m k:Nat)(keep:Nat→Option (List Nat)):∀(c:Code) (st:St) (u:Pn),Uses (fun ρ n=>uB C ρ n m k keep c st u):=by
 intro c
 induction c with
 |region id hA draw =>
  intro st u;cases draw with
  |true=>unfold uB;exact zF3 _ _ _ _ _ _ _
  |false =>
   unfold uB;cases hA.toList.any zAS with
   |false=>exact zF3 _ _ _ _ _ _ _
   |true =>
    try dsimp only
    cases uQ k hA.toList with
    |false=>exact .const none
    |true =>
     refine Uses.of (zD2 C hA.toList hA.toList st.T st.h u) (fun a _ _=>some (Ex.normal,⟨a.1,a.2.1⟩,a.2.2)) (fun a=>.const _) ?_;intro ρ n
     try dsimp only
     cases qB C ρ hA.toList hA.toList st.T st.h u with
     |none=>rfl
     |some a=>rfl
 |seq x y ihx ihy =>
  intro st u;unfold uB;cases zAU x with
  |true =>
   refine Uses.of (ihx st u) (fun a ρ n=>match a with
    |(Ex.normal,st,u)=>zE4 (exec C ρ n m k keep y st) u
    |r=>some r) (fun a=>?_) ?_
   ·obtain⟨e,st1,u1⟩:=a;cases e with
    |normal=>exact zF3 _ _ _ _ _ _ _
    |_=>exact .const _
   intro ρ n
   try dsimp only
   cases uB C ρ n m k keep x st u with
   |none=>rfl
   |some a=>obtain⟨e,st1,u1⟩:=a;cases e<;>rfl
  |false =>
   refine Uses.of (uD C m k keep x st) (fun a ρ n=>match a with
    |(Ex.normal,st)=>uB C ρ n m k keep y st u
    |(e,st)=>some (e,st,u)) (fun a=>?_) ?_
   ·obtain⟨e,st1⟩:=a;cases e with
    |normal=>exact ihy st1 u
    |_=>exact .const _
   intro ρ n
   try dsimp only
   cases exec C ρ n m k keep x st with
   |none=>rfl
   |some a=>obtain⟨e,st1⟩:=a;cases e<;>rfl
 |_=>intro st u;unfold uB;exact zF3 _ _ _ _ _ _ _
def zTM(C:Cfg)(f:FuncId)(args:List AV)(h:Heap):Uses (fun ρ n=>zJb C ρ n f args h):=by
 unfold zJb;cases args with
 |nil=>exact .const none
 |cons a args =>
  try dsimp only
  cases avPn a with
  |none=>exact .const none
  |some u =>
   cases nth C.P.funcs.toList f with
   |none=>exact .const none
   |some fn =>
    try dsimp only
    cases fn.body with
    |none=>exact .const none
    |some c =>
     try dsimp only
     cases Nat.ble args.length fn.ntmps with
     |false=>exact .const none
     |true =>
      refine Uses.of (zNv C h.length fn.ntmps (C.keep f) c ⟨zT 0 args,h⟩ u) (fun r _ _=>match r with
       |(Ex.normal,st,u)|(Ex.ret,st,u)=>match yK fn.ntmps st.T,results C.P fn st with
        |some [],some _=>match canon st.h h.length [] with
         |some (_,h)=>some (Out.val (pnAV (zCY u)),h)
         |none=>none
        |_,_=>none
       |_=>none) (fun r=>.const _) ?_
      intro ρ n
      try dsimp only
      cases uB C ρ n h.length fn.ntmps (C.keep f) c ⟨zT 0 args,h⟩ u with
      |none=>rfl
      |some r=>obtain⟨e,st,u⟩:=r;cases e<;>rfl
def zSZ(C:Cfg)(args:List AV)(h:Heap):Uses (fun ρ n=>zCv C ρ n args h):=by
 unfold zCv;split
 ·rename_i id as;split
  ·rename_i c T kz;split
   ·rename_i T1 _ _;refine Uses.of (uD C h.length c.k (C.keep c.kf) c.asg ⟨T1,h⟩) (fun r ρ n=>match r with
     |(Ex.normal,st)=>match nth st.h id with
      |some (.loop c' T' 0 none)=>match exec C ρ n h.length c.k (C.keep c.kf) c.body ⟨st.T,patch st.h [(id,.loop c' T' 1 none)]⟩ with
       |some (e,st2)=>match zCv.endOf e,nth st2.h id with
        |some jump,some (.loop c2 T2 _ _)=>match canon (patch st2.h [(id,.loop c2 T2 (if jump.isNone then 0 else 2) jump)]) h.length [] with
         |some (_,h')=>some (Out.val (.t (.bool jump.isNone)),h')
         |none=>none
        |_,_=>none
       |none=>none
      |_=>none
     |_=>none) (fun r=>?_) ?_
    ·obtain⟨e,st⟩:=r;cases e with
     |normal =>
      try dsimp only
      split
      ·rename_i c' T' _;refine Uses.of (uD C h.length c.k (C.keep c.kf) c.body ⟨st.T,patch st.h [(id,.loop c' T' 1 none)]⟩) (fun r ρ n=>match zCv.endOf r.1,nth r.2.h id with
        |some jump,some (.loop c2 T2 _ _)=>match canon (patch r.2.h [(id,.loop c2 T2 (if jump.isNone then 0 else 2) jump)]) h.length [] with
         |some (_,h')=>some (Out.val (.t (.bool jump.isNone)),h')
         |none=>none
        |_,_=>none) (fun r=>.const _) ?_
       intro ρ n
       try dsimp only
       cases exec C ρ n h.length c.k (C.keep c.kf) c.body ⟨st.T,patch st.h [(id,.loop c' T' 1 none)]⟩ with
       |none=>rfl
       |some r=>rfl
      exact .const none
     |_=>exact .const none
    intro ρ n
    try dsimp only
    cases exec C ρ n h.length c.k (C.keep c.kf) c.asg ⟨T1,h⟩ with
    |none=>rfl
    |some r=>obtain⟨e,st⟩:=r;cases e<;>rfl
   exact .const none
  exact .const none
 exact .const none
def zTi(C:Cfg)(f:FuncId)(fn:Func)(c:Code)(args:List AV)(h:Heap):Uses (fun ρ n=>zCs C ρ n f fn c args h):=by
 unfold zCs;refine Uses.of (uD C h.length fn.ntmps (C.keep f) c ⟨zT 0 args,h⟩) (fun r ρ n=>match r with
   |(Ex.normal,st)|(Ex.ret,st)=>match yK fn.ntmps st.T with
    |some []=>match results C.P fn st with
     |none=>none
     |some v=>match yW C f h.length v st.h with
      |some (v,h)=>some (Out.val v,h)
      |none=>none
    |some ds=>leave C ρ f fn h.length ds none st.T st.h
    |none=>none
   |(Ex.pan v,st)=>match yK fn.ntmps st.T with
    |some []=>match yW C f h.length v st.h with
     |some (v,h)=>some (Out.pan v,h)
     |none=>none
    |some ds=>match v with
     |.t x=>leave C ρ f fn h.length ds (some (x,false)) st.T st.h
     |_=>none
    |none=>none
   |_=>none) (fun r=>?_) ?_
 ·obtain⟨e,st⟩:=r;cases e with
  |exit id=>exact .const none
  |normal =>
   try dsimp only
   split
   ·exact .const _
   ·exact zEn _ _ _ _ _ _ _ _
   exact .const none
  |ret =>
   try dsimp only
   split
   ·exact .const _
   ·exact zEn _ _ _ _ _ _ _ _
   exact .const none
  |pan v =>
   try dsimp only
   split
   ·exact .const _
   ·split
    ·exact zEn _ _ _ _ _ _ _ _
    exact .const none
   exact .const none
 intro ρ n
 try dsimp only
 cases exec C ρ n h.length fn.ntmps (C.keep f) c ⟨zT 0 args,h⟩ with
 |none=>rfl
 |some r=>obtain⟨e,st⟩:=r;cases e<;>rfl
def zHW(C:Cfg)(f:FuncId)(args:List AV)(h:Heap):Uses (fun ρ n=>zDl C ρ n f args h):=by
 unfold zDl;cases nth C.P.funcs.toList f with
 |none =>
  try dsimp only
  cases Nat.beq f vL with
  |true=>exact zSZ C args h
  |false =>
   try dsimp only
   cases Nat.ble xG f with
   |true=>exact zTM C _ args h
   |false=>exact .const none
 |some fn =>
  try dsimp only
  cases fn.body with
  |none=>exact .const none
  |some c =>
   try dsimp only
   cases Nat.ble args.length fn.ntmps with
   |true=>exact zTi C f fn c args h
   |false=>exact .const none
def uI {C:Cfg} {ρ:Oracle} {m k n n':Nat} {keep:Nat→Option (List Nat)} {c:Code} {st:St} {r:Ex×St} (hn:n≤n')
  (hx:exec C ρ n m k keep c st=some r):exec C ρ n' m k keep c st=some r:=by
 obtain⟨L,h1,h2⟩:=uD C m k keep c st ρ n r hx;exact h2 ρ n' hn h1
def zMo{C:Cfg}:∀(n:Nat) {f:FuncId} {args:List AV} {h:Heap} {r:Out×Heap},zBg C n f args h=some r→zBg C (n+1) f args h=some r
 |0,f,args,h,r,hx=>by simp [zBg] at hx
 |n+1,f,args,h,r,hx=>by
  unfold zBg at hx ⊢;obtain⟨L,h1,h2⟩:=zHW C f args h _ _ _ hx;exact h2 _ _ (by omega) fun q hq=>zMo n (h1 q hq)
def zG7{C:Cfg}{n n':Nat}(hn:n≤n'){f:FuncId}{args:List AV}{h:Heap}{r:Out×Heap}(hx:zBg C n f args h=some r):zBg C n' f args h=some r:=by
 induction hn with
 |refl=>exact hx
 |step _ ih=>exact zMo _ ih
def Ev(C:Cfg)(f:FuncId)(args:List AV)(h:Heap)(r:Out×Heap):Prop:=∃n,zBg C n f args h=some r
theorem Ev.det{C:Cfg}{f:FuncId}{args:List AV}{h:Heap}{r r':Out×Heap}(a:Ev C f args h r)(b:Ev C f args h r'):r=r':=by
 obtain⟨n,hn⟩:=a;obtain⟨n',sA⟩:=b;have h1:=zG7 (Nat.le_max_left n n') hn;have h2:=zG7 (Nat.le_max_right n n') sA;rw[h1] at h2;exact Option.some.inj h2
open Classical in
noncomputable def Om(C:Cfg):Oracle:=fun f args h=>if ex:∃r,Ev C f args h r then some ex.choose else none
def zLX{C:Cfg}{f:FuncId}{args:List AV}{h:Heap}{r:Out×Heap}:Om C f args h=some r↔Ev C f args h r:=by
 unfold Om;split
 ·rename_i ex
  constructor
  ·intro hx;cases hx;exact ex.choose_spec
  intro hx;exact congrArg some (ex.choose_spec.det hx)
 rename_i ex
 constructor
 ·intro hx;cases hx
 intro hx;exact(ex ⟨r,hx⟩).elim
def zSU{C:Cfg}:∀ {L:List Ask},Sat (Om C) L→∃N,∀n,N≤n→Sat (zBg C n) L
 |[],_=>⟨0,fun _ _=>Sat.nil⟩
 |q::L,h=>by
  obtain⟨N,hN⟩:=zSU (L:=L) fun x hx=>h x (List.mem_cons_of_mem _ hx)
  obtain⟨N',sB⟩:=zLX.1 (h q (List.mem_cons_self ..));refine⟨max N N',fun n hn x hx=>?_⟩;rcases List.mem_cons.1 hx with rfl|hx
  ·exact zG7 (by omega) sB
  exact hN n (by omega) x hx
def zDQ{C:Cfg}{n:Nat}{f:FuncId}{args:List AV}{h:Heap}{r:Out×Heap}(hx:zDl C (Om C) n f args h=some r):Om C f args h=some r:=by
 obtain⟨L,h1,h2⟩:=zHW C f args h _ _ _ hx;obtain⟨N,hN⟩:=zSU h1;refine zLX.2 ⟨max N n+1,?_⟩;unfold zBg;exact h2 _ _ (by omega) (hN _ (by omega))
def vK{C:Cfg}{n:Nat}{f:FuncId}{args:List AV}{h:Heap}{r:Out×Heap}(hx:zBg C n f args h=some r):Om C f args h=some r:=zLX.2 ⟨n,hx⟩
def zGn{C:Cfg}{tbl:Oracle}(ht:∀f args h r,tbl f args h=some r→Om C f args h=some r):∀ {n:Nat} {f:FuncId} {args:List AV} {h:Heap} {r:Out×Heap},
  zJg C tbl n f args h=some r→Om C f args h=some r
 |0,f,args,h,r,hx=>by simp [zJg] at hx
 |n+1,f,args,h,r,hx=>by
  unfold zJg at hx;split at hx
  ·rename_i r' hr;cases hx;exact ht _ _ _ _ hr
  obtain⟨L,h1,h2⟩:=zHW C f args h _ _ _ hx;exact zDQ (h2 (Om C) n (Nat.le_refl _) fun q hq=>zGn ht (h1 q hq))
def zXg{C:Cfg}{w0:World}(hm:C.P.follows .mixedOrders=true)(hO:uM C w0):xX C.P w0 (Om C) :=
 fun f args h hI h' hx=>by
  obtain⟨n,hn⟩:=zLX.1 hx;exact zPZ hm hO n f args h hI h' hn
def W(C:Cfg)(m k:Nat)(keep:Nat→Option (List Nat))(c:Code)(st:St)(Q:Ex→St→Prop):Prop :=
 ∃n e st',exec C (Om C) n m k keep c st=some (e,st')∧Q e st'
section
variable {C:Cfg} {m k:Nat} {keep:Nat→Option (List Nat)} {st:St} {Q:Ex→St→Prop}
def zD9(C:Cfg)(m k:Nat)(keep:Nat→Option (List Nat))(b:Code)(Q:Ex→St→Prop):Ex→St→Prop
 |.normal,st=>W C m k keep b st Q
 |e,st=>Q e st
theorem W.mono{c:Code}{Q':Ex→St→Prop}(h:W C m k keep c st Q)(hq:∀e st,Q e st→Q' e st):W C m k keep c st Q':=by
 obtain⟨n,e,st',h1,h2⟩:=h;exact⟨n,e,st',h1,hq _ _ h2⟩
theorem zGE(h:Q .normal st):W C m k keep .skip st Q:=⟨0,.normal,st,by simp only[exec],h⟩
theorem zJB(h:Q .ret st):W C m k keep .ret st Q:=⟨0,.ret,st,by simp only[exec],h⟩
theorem zGO{id:Nat}(h:Q (.exit id) st):W C m k keep (.exit id) st Q:=⟨0,.exit id,st,by simp only[exec],h⟩
theorem zFg{l:Nat}(h:Q .normal st):W C m k keep (.label l) st Q:=⟨0,.normal,st,by simp only[exec],h⟩
theorem zKs {id:Nat} {hA:Array Oper} {draw:Bool} {e:Ex} {st':St} (h:region C (Om C) k hA.toList draw st=some (e,st')) (hq:Q e st') :
  W C m k keep (.region id hA draw) st Q:=⟨0,e,st',by simp only[exec];exact h,hq⟩
theorem zFJ{a b:Code}(h:W C m k keep a st (zD9 C m k keep b Q)):W C m k keep (.seq a b) st Q:=by
 obtain⟨n,e,st',h1,h2⟩:=h;cases e with
 |normal =>
  obtain⟨n',e,st'',h3,h4⟩:=h2;refine⟨max n n',e,st'',?_,h4⟩;simp only[exec];rw[uI (Nat.le_max_left n n') h1];exact uI (Nat.le_max_right n n') h3
 |exit id=>exact⟨n,_,st',by simp only[exec,h1],h2⟩
 |ret=>exact⟨n,_,st',by simp only[exec,h1],h2⟩
 |pan v=>exact⟨n,_,st',by simp only[exec,h1],h2⟩
theorem zLO {c:Operand} {a b:Code} {v:Bool} (h:zN st.T c=.t (.bool v)) (h1:v=true→W C m k keep a st Q) (h2:v=false→W C m k keep b st Q) :
  W C m k keep (.cond c a b) st Q:=by
 cases v with
 |true =>
  obtain⟨n,e,st',h3,h4⟩:=h1 rfl;exact⟨n,e,st',by simp only[exec,h,h3],h4⟩
 |false =>
  obtain⟨n,e,st',h3,h4⟩:=h2 rfl;exact⟨n,e,st',by simp only[exec,h,h3],h4⟩
def zB2(id:Nat)(Q:Ex→St→Prop):Ex→St→Prop
 |.exit id',st=>if id'=id then Q .normal st else Q (.exit id') st
 |e,st=>Q e st
theorem zFa{id:Nat}{b:Code}(h:W C m k keep b st (zB2 id Q)):W C m k keep (.block id b) st Q:=by
 obtain⟨n,e,st',h1,h2⟩:=h;cases e with
 |exit id' =>
  simp only[zB2] at h2
  by_cases hi:id'=id
  ·rw[if_pos hi] at h2;exact⟨n,.normal,st',by simp only[exec,h1,hi,if_true],h2⟩
  rw[if_neg hi] at h2;exact⟨n,.exit id',st',by simp only[exec,h1,hi,if_false],h2⟩
 |normal=>exact⟨n,.normal,st',by simp only[exec,h1],h2⟩
 |ret=>exact⟨n,.ret,st',by simp only[exec,h1],h2⟩
 |pan v=>exact⟨n,.pan v,st',by simp only[exec,h1],h2⟩
theorem zFe{b:Code}(h:W C m k keep b st Q):W C m k keep (.scope b) st Q:=by
 obtain⟨n,e,st',h1,h2⟩:=h;exact⟨n,e,st',by simp only[exec,h1],h2⟩
def round(m k:Nat)(ks:Option (List Nat))(Inv:Nat→St→Prop)(d:Nat)(Q:Ex→St→Prop):Ex→St→Prop
 |.normal,st=>∃d',d'<d∧∃st',tidy m k ks st=some st'∧Inv d' st'
 |e,st=>Q e st
theorem yGe {b:Code} (Inv:Nat→St→Prop) (d:Nat) {st1:St} (h0:tidy m k (xP keep b) st=some st1) (h1:Inv d st1)
  (step:∀d st1,Inv d st1→W C m k keep b st1 (round m k (xP keep b) Inv d Q)):W C m k keep (.loop b) st Q:=by
 have key:∀d st st1,tidy m k (xP keep b) st=some st1→Inv d st1 →
   ∃n e st',iter (tidy m k (xP keep b)) (exec C (Om C) n m k keep b) n st=some (e,st')∧Q e st':=by
  intro d
  induction d using Nat.strongRecOn with
  |_ d ih =>
   intro st st1 h0 h1;obtain⟨n,e,st2,h2,h3⟩:=step d st1 h1;cases e with
   |normal =>
    obtain⟨d',hd,st3,h4,h5⟩:=h3;obtain⟨n',e',st4,h6,h7⟩:=ih d' hd st2 st3 h4 h5;refine⟨max n n'+1,e',st4,?_,h7⟩;unfold iter;rw[h0];dsimp only;rw[uI (by omega) h2];dsimp only;obtain⟨L,s1,s2⟩:=zG8 (body:=fun ρ n st=>exec C ρ n m k keep b st) (gc:=tidy m k (xP keep b)) (fun st=>uD C m k keep b st) n' st2 (Om C) n' _ h6;exact s2 (Om C) (max n n'+1) (max n n') (by omega) (by omega) s1
   |exit id =>
    refine⟨n+1,_,st2,?_,h3⟩;unfold iter;rw[h0];dsimp only;rw[uI (by omega) h2]
   |ret =>
    refine⟨n+1,_,st2,?_,h3⟩;unfold iter;rw[h0];dsimp only;rw[uI (by omega) h2]
   |pan v =>
    refine⟨n+1,_,st2,?_,h3⟩;unfold iter;rw[h0];dsimp only;rw[uI (by omega) h2]
 obtain⟨n,e,st',h2,h3⟩:=key d st st1 h0 h1;refine⟨n,e,st',?_,h3⟩;simp only[exec];exact h2
def ends(C:Cfg)(f:FuncId)(fn:Func)(m:Nat)(R:Out→Heap→Prop):Ex→St→Prop
 |.normal,st=>yK fn.ntmps st.T=some []∧∃v,results C.P fn st=some v∧∃v' h',yW C f m v st.h=some (v',h')∧R (.val v') h'
 |.ret,st=>yK fn.ntmps st.T=some []∧∃v,results C.P fn st=some v∧∃v' h',yW C f m v st.h=some (v',h')∧R (.val v') h'
 |.pan v,st=>yK fn.ntmps st.T=some []∧∃v' h',yW C f m v st.h=some (v',h')∧R (.pan v') h'
 |_,_=>False
def zLS(C:Cfg)(f:FuncId)(fn:Func)(m:Nat)(R:Out→Heap→Prop):Ex→St→Prop
 |.normal,st=>∃ds,yK fn.ntmps st.T=some ds∧∃o h',leave C (Om C) f fn m ds none st.T st.h=some (o,h')∧R o h'
 |.ret,st=>∃ds,yK fn.ntmps st.T=some ds∧∃o h',leave C (Om C) f fn m ds none st.T st.h=some (o,h')∧R o h'
 |.pan v,st=>∃x,v=.t x∧∃ds,yK fn.ntmps st.T=some ds∧∃o h',leave C (Om C) f fn m ds (some (x,false)) st.T st.h=some (o,h')∧R o h'
 |_,_=>False
theorem zHd {C:Cfg} {ρ:Oracle} {n:Nat} {f:FuncId} {fn:Func} {c:Code} {args:List AV} {h:Heap} (hf:nth C.P.funcs.toList f=some fn) (hb:fn.body=some c) (hn:Nat.ble args.length fn.ntmps=true) :
  zDl C ρ n f args h=zCs C ρ n f fn c args h:=by
 unfold zDl;simp only[hf,hb,hn]
theorem xU {f:FuncId} {fn:Func} {c:Code} {args:List AV} {h:Heap} {R:Out→Heap→Prop} (hf:nth C.P.funcs.toList f=some fn) (hb:fn.body=some c)
  (hw:W C h.length fn.ntmps (C.keep f) c ⟨zT 0 args,h⟩ (ends C f fn h.length R)) (hn:Nat.ble args.length fn.ntmps=true):∃o h',Om C f args h=some (o,h')∧R o h':=by
 obtain⟨n,e,st',h1,h2⟩:=hw;cases e with
 |normal =>
  obtain⟨h0,v,h3,v',h',h4,h5⟩:=h2;exact⟨_,_,zDQ (n:=n) (by rw[zHd hf hb hn];unfold zCs;simp only[h1,h0,h3,h4]),h5⟩
 |ret =>
  obtain⟨h0,v,h3,v',h',h4,h5⟩:=h2;exact⟨_,_,zDQ (n:=n) (by rw[zHd hf hb hn];unfold zCs;simp only[h1,h0,h3,h4]),h5⟩
 |pan v =>
  obtain⟨h0,v',h',h4,h5⟩:=h2;exact⟨_,_,zDQ (n:=n) (by rw[zHd hf hb hn];unfold zCs;simp only[h1,h0,h4]),h5⟩
 |exit id=>exact h2.elim
theorem zHl {f:FuncId} {fn:Func} {c:Code} {args:List AV} {h:Heap} {R:Out→Heap→Prop} (hf:nth C.P.funcs.toList f=some fn) (hb:fn.body=some c)
  (hw:W C h.length fn.ntmps (C.keep f) c ⟨zT 0 args,h⟩ (zLS C f fn h.length R)) (hn:Nat.ble args.length fn.ntmps=true):∃o h',Om C f args h=some (o,h')∧R o h':=by
 obtain⟨n,e,st',h1,h2⟩:=hw;have key:∀(o:Out) (h':Heap),zCs C (Om C) n f fn c args h=some (o,h')→Om C f args h=some (o,h'):=fun o h' hx=>zDQ (n:=n) (by rw[zHd hf hb hn];exact hx)
 cases e with
 |normal =>
  obtain⟨ds,h0,o,h',h3,h4⟩:=h2;refine⟨o,h',key _ _ ?_,h4⟩;unfold zCs;simp only[h1,h0];cases ds with
  |nil=>rw[leave] at h3;exact h3
  |cons d ds=>exact h3
 |ret =>
  obtain⟨ds,h0,o,h',h3,h4⟩:=h2;refine⟨o,h',key _ _ ?_,h4⟩;unfold zCs;simp only[h1,h0];cases ds with
  |nil=>rw[leave] at h3;exact h3
  |cons d ds=>exact h3
 |pan v =>
  obtain⟨x,rfl,ds,h0,o,h',h3,h4⟩:=h2;refine⟨o,h',key _ _ ?_,h4⟩;unfold zCs;simp only[h1,h0];cases ds with
  |nil=>rw[leave] at h3;exact h3
  |cons d ds=>exact h3
 |exit id=>exact h2.elim
end
end Go.Ab
