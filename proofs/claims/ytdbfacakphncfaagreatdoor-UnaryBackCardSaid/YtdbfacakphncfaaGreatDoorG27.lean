/- Lemmas. -/
import Derived.Test.YtdbfacakphncfaaGreatDoorG26
set_option maxRecDepth 1000000
set_option maxHeartbeats 40000000
set_option linter.all false
namespace Go.Ab
variable (vp:List Nat→Val×Int)
def Sep(r:List Nat):Prop:=∀c r',r=c::r'→c=32∨c=40∨c=41∨c=44∨c=93
def LX(p:List Nat)(ws:List BTok):Prop:=∀r,Sep r→lexB vp (p++r)=andL (some ws) (lexB vp r)
def LY(p:List Nat)(ws:List BTok):Prop:=∀r,lexB vp (p++r)=andL (some ws) (lexB vp r)
variable {vp}
theorem LY.lx{p:List Nat}{ws:List BTok}(h:LY vp p ws):LX vp p ws:=fun r _=>h r
theorem zRh{α:Type}(a:Option (List α)):andL (some []) a=a:=by cases a<;>rfl
theorem zKw{α:Type}(a b:List α)(x:Option (List α)):andL (some (a++b)) x=andL (some a) (andL (some b) x):=by cases x<;>simp [andL]
theorem Sep.nil:Sep []:=fun c r' h=>by cases h
theorem Sep.cons{c:Nat}{r:List Nat}(h:c=32∨c=40∨c=41∨c=44∨c=93):Sep (c::r):=fun c' r' h'=>by cases h';exact h
theorem LX.app{p q:List Nat}{a b:List BTok}(h1:LX vp p a)(h2:LX vp q b)(hs:∀r,Sep r→Sep (q++r)):LX vp (p++q) (a++b):=fun r hr=>by
 rw[List.append_assoc,h1 _ (hs r hr),h2 r hr,zKw]
theorem LY.app{p q:List Nat}{a b:List BTok}(h1:LY vp p a)(h2:LX vp q b):LX vp (p++q) (a++b):=fun r hr=>by
 rw[List.append_assoc,h1 _,h2 r hr,zKw]
theorem LY.nil:LY vp [] []:=fun r=>by rw[List.nil_append,zRh]
theorem LY.sp:LY vp [32] []:=fun r=>by rw[zRh];exact zQ0 vp r
theorem LY.one{c:Nat}(h:c ∈ signs1)(h2:c≠60∧c≠62∧c≠46):LY vp [c] [sgB [c]]:=fun r=>zKO vp h (no2 h2)
theorem zIT{q:Nat→Bool}{r:List Nat}(hr:cntW q r=0):∀s:List Nat,cntW q (s.take (cntW q s)++r)=cntW q s
 |[]=>by simpa [cntW] using hr
 |c::s=>by
  by_cases h:q c=true
  ·rw[cntW,if_pos h,List.take_succ_cons,List.cons_append,cntW,if_pos h,zIT hr s]
  rw[cntW,if_neg h,List.take_zero,List.nil_append];exact hr
theorem zFB{q:Nat→Bool}{r:List Nat}(hr:cntW q r=0):∀ {s:List Nat},(∀c ∈ s,q c=true)→cntW q (s++r)=s.length
 |[],_=>hr
 |c::s,h=>by rw[List.cons_append,cntW,if_pos (h c (List.mem_cons_self ..)),zFB hr fun c hc=>h c (List.mem_cons_of_mem _ hc)];rfl
theorem zII{q:Nat→Bool}:∀(s:List Nat),∀c ∈ s.take (cntW q s),q c=true
 |[],c,h=>by simp [cntW] at h
 |a::s,c,h=>by
  rw[cntW] at h;split at h
  ·rename_i ha;rw[List.take_succ_cons] at h;rcases List.mem_cons.1 h with rfl|h
   ·exact ha
   exact zII s c h
  simp at h
theorem Sep.named{r:List Nat}(h:Sep r):cntW yF r=0:=by
 cases r with
 |nil=>rfl
 |cons c r=>rcases h c r rfl with rfl|rfl|rfl|rfl|rfl<;>rfl
theorem Sep.digit{r:List Nat}(h:Sep r):cntW yA r=0:=by
 cases r with
 |nil=>rfl
 |cons c r=>rcases h c r rfl with rfl|rfl|rfl|rfl|rfl<;>rfl
theorem Sep.head{r:List Nat}(h:Sep r):nth0 r 0≠46∧yT (nth0 r 0)=false:=by
 cases r with
 |nil=>exact⟨by decide,by decide⟩
 |cons c r=>rcases h c r rfl with rfl|rfl|rfl|rfl|rfl<;>exact⟨by simp [nth0],by simp [nth0];decide⟩
theorem zFj{c:Nat}{p r:List Nat}{b:BTok}{n:Nat}(hc:c≠10∧c≠32∧c≠59)(h:yJ vp (c::p++r)=(b,n,0))(hn:n=p.length+1):lexB vp (c::p++r)=andL (some [b]) (lexB vp r):=by
 have h':yJ vp (c::(p++r))=(b,n,0):=h;rw[List.cons_append,lexB,if_neg (by omega),if_neg (by omega),h'];dsimp only;rw[if_pos rfl,hn,Nat.add_sub_cancel,List.drop_left];cases lexB vp r<;>rfl
theorem zYN{c:Nat}{p:List Nat}(h1:yT c=true)(h2:∀x ∈ c::p,yF x=true)(h3:(c::p).length≤12):LX vp (c::p) [nmB (c::p)]:=by
 intro r hr;have hv:cntW yF (c::(p++r))=p.length+1:=zFB (s:=c::p) hr.named h2;have hc:c≠10∧c≠32∧c≠59:=by
  refine⟨?_,?_,?_⟩<;>rintro rfl<;>exact absurd h1 (by decide)
 refine zFj (n:=p.length+1) hc ?_ rfl;have ht:(c::(p++r)).take (p.length+1)=c::p:=by rw[List.take_succ_cons,List.take_left]
 unfold yJ;rw[List.cons_append,show nth0 (c::(p++r)) 0=c from rfl,if_pos h1,hv,ht];dsimp only;rw[if_neg (by omega)]
 rfl
theorem yEQ{c:Nat}{p:List Nat}(h1:yT c=true)(h2:∀x ∈ c::p,yF x=true)(h3:(c::p).length≤12):LX vp (63::c::p) [(2,c::p,VZ)]:=by
 intro r hr;have hv:cntW yF (c::(p++r))=p.length+1:=zFB (s:=c::p) hr.named h2;refine zFj (n:=p.length+1+1) (by decide) ?_ rfl;have ht:(c::(p++r)).take (p.length+1)=c::p:=by rw[List.take_succ_cons,List.take_left]
 unfold yJ;rw[show 63::c::p++r=63::c::(p++r) from rfl,show nth0 (63::c::(p++r)) 0=63 from rfl,show nth0 (63::c::(p++r)) 1=c from rfl,show (63::c::(p++r)).drop 1=c::(p++r) from rfl];rw[if_neg (by decide),if_neg (by decide),if_neg (by decide),if_pos ⟨rfl,h1⟩,hv,ht];dsimp only;rw[if_neg (by omega),List.length_cons,Nat.add_comm]
theorem yAP:LX vp [63] [(3,[],VZ)]:=by
 intro r hr;refine zFj (c:=63) (p:=[]) (n:=1) (by decide) ?_ rfl;unfold yJ;have h1:nth0 (63::([]++r)) 1=nth0 r 0:=rfl;rw[show 63::[]++r=63::r from rfl,show nth0 (63::r) 0=63 from rfl,show nth0 (63::r) 1=nth0 r 0 from rfl,hr.head.2];rw[if_neg (by decide),if_neg (by decide),if_neg (by decide),if_neg (by simp),if_pos rfl]
theorem yGP{c:Nat}{p:List Nat}(h1:yT c=true)(h2:∀x ∈ c::p,yF x=true)(h3:(c::p).length≤12):LX vp (35::c::p) [(6,c::p,VSym (c::p))]:=by
 intro r hr;have hv:cntW yF (c::(p++r))=p.length+1:=zFB (s:=c::p) hr.named h2;refine zFj (n:=p.length+1+1) (by decide) ?_ rfl;have ht:(c::(p++r)).take (p.length+1)=c::p:=by rw[List.take_succ_cons,List.take_left]
 unfold yJ;rw[show 35::c::p++r=35::c::(p++r) from rfl,show nth0 (35::c::(p++r)) 0=35 from rfl,show nth0 (35::c::(p++r)) 1=c from rfl,show (35::c::(p++r)).drop 1=c::(p++r) from rfl];rw[if_neg (by decide),if_neg (by decide),if_neg (by decide),if_neg (by simp),if_neg (by decide),if_pos ⟨rfl,h1⟩,hv,ht];dsimp only;rw[if_neg (by omega),List.length_cons,Nat.add_comm]
theorem zXp{s r:List Nat}{i:Nat}(h:i<s.length):nth0 (s++r) i=nth0 s i:=by unfold nth0;rw[List.getElem?_append_left h]
theorem zOQ{s r:List Nat}:nth0 (s++r) s.length=nth0 r 0:=by unfold nth0;rw[List.getElem?_append_right (Nat.le_refl _),Nat.sub_self]
theorem zTN{s r:List Nat}(hr:Sep r):numN (s.take (numN s)++r)=numN s:=by
 have h1:=zAB yA s;have hz:=zI8 s;have ka:yA 0=false:=by decide
 unfold numN at hz ⊢;dsimp only at hz ⊢
 by_cases h:nth0 s (cntW yA s)=46∧yA (nth0 s (cntW yA s+1))=true
 ·rw[if_pos h] at hz ⊢;generalize hm:cntW yA (s.drop (cntW yA s+1))=m at hz ⊢;generalize hn:cntW yA s=n at *
  -- the digits,the point,the digits
  have hA:n<s.length:=by
   rcases Nat.lt_or_ge n s.length with h'|h'
   ·exact h'
   rw[zFh h'] at h;exact absurd h.1 (by decide)
  have hs:s=s.take n++46::s.drop (n+1):=by
   have:s.drop n=s[n]::s.drop (n+1):=List.drop_eq_getElem_cons hA;have hP:s[n]=46:=by have:=h.1;unfold nth0 at this;rw[List.getElem?_eq_getElem hA] at this;exact this
   rw[← hP,← this,List.take_append_drop]
  have hF:s.take (n+1+m)=s.take n++46::(s.drop (n+1)).take m:=by
   conv=>lhs;rw[hs]
   rw[List.take_append,List.length_take,Nat.min_eq_left (by omega),List.take_of_length_le (by simp;omega),show n+1+m - n=m+1 by omega,List.take_succ_cons]
  have hf:(s.take n).length=n:=by rw[List.length_take];omega
  have hC:∀c ∈ s.take n,yA c=true:=by have:=zII (q:=yA) s;rw[hn] at this;exact this
  have e1:cntW yA (s.take (n+1+m)++r)=n:=by
   rw[hF,List.append_assoc,List.cons_append,zFB (r:=46::((s.drop (n+1)).take m++r)) rfl hC,hf]
  have kb:0<m:=by
   rw[← hm];have h2:nth0 s (n+1)=nth0 (s.drop (n+1)) 0:=by unfold nth0;rw[List.getElem?_drop]
   have h3:=h.2;rw[h2] at h3;cases hI:s.drop (n+1) with
   |nil=>rw[hI] at h3;exact absurd h3 (by decide)
   |cons a t=>rw[hI] at h3;have hQ:yA a=true:=h3;rw[cntW,if_pos hQ];omega
  have hb:n+1+m≤s.length:=hz;have kc:(s.take (n+1+m)).length=n+1+m:=by rw[List.length_take];omega
  have hJ:∀i,i<n+1+m→nth0 (s.take (n+1+m)++r) i=nth0 s i:=fun i hi=>by
   rw[zXp (by omega)];unfold nth0;rw[List.getElem?_take_of_lt hi]
  rw[e1,hJ n (by omega),hJ (n+1) (by omega),if_pos h];have hD:(s.take (n+1+m)++r).drop (n+1)=(s.drop (n+1)).take m++r:=by
   rw[hF,List.append_assoc,List.cons_append,List.drop_append,hf,List.drop_of_length_le (by rw[hf];omega),show n+1 - n=1 by omega]
   rfl
  rw[hD];have:=zIT (q:=yA) hr.digit (s.drop (n+1));rw[hm] at this;omega
 rw[if_neg h];have e1:=zIT (q:=yA) hr.digit s;rw[e1];have hf:(s.take (cntW yA s)).length=cntW yA s:=by rw[List.length_take];omega
 have e2:nth0 (s.take (cntW yA s)++r) (cntW yA s)=nth0 r 0:=by
  conv=>lhs;rw[← hf]
  rw[hf];have:=zOQ (s:=s.take (cntW yA s)) (r:=r);rw[hf] at this;exact this
 rw[if_neg (by rw[e2];exact fun h=>hr.head.1 h.1)]
theorem zNR(r:List Nat):∀(s:List Nat) (e:Bool),nth0 s (strN e s)=34→strN e (s.take (strN e s)++34::r)=strN e s
 |[],e,h=>by simp [strN,nth0] at h
 |c::s,e,h=>by
  by_cases hc:((c==34&&!e)||Nat.blt c 32||Nat.blt 126 c)=true
  ·have:strN e (c::s)=0:=by rw[strN,if_pos hc]
   rw[this] at h ⊢;have hR:c=34:=h;subst hR;rw[List.take_zero,List.nil_append,strN,if_pos hc]
  have h1:strN e (c::s)=strN (c==92&&!e) s+1:=by rw[strN,if_neg hc]
  rw[h1] at h ⊢;have h2:nth0 s (strN (c==92&&!e) s)=34:=h;rw[List.take_succ_cons,List.cons_append,strN,if_neg hc,zNR r s _ h2]
theorem zDP:∀(s:List Nat) {L:List BTok} {b:BTok},lexB vp s=some L→b ∈ L→∃c r n,(c≠10∧c≠32∧c≠59)∧yJ vp (c::r)=(b,n,0)∧∀x ∈ c::r,x ∈ s
 |[],L,b,h,hb=>by rw[lexB] at h;cases h;cases hb
 |c::s,L,b,h,hb=>by
  rw[lexB] at h;split at h
  ·obtain⟨c',r,n,h1,h2,h3⟩:=zDP s h hb;exact⟨c',r,n,h1,h2,fun x hx=>List.mem_cons_of_mem _ (h3 x hx)⟩
  rename_i hc;split at h
  ·obtain⟨c',r,n,h1,h2,h3⟩:=zDP (s.drop _) h hb;exact⟨c',r,n,h1,h2,fun x hx=>List.mem_cons_of_mem _ (List.mem_of_mem_drop (h3 x hx))⟩
  rename_i kd;split at h
  ·rename_i hw;cases hl:lexB vp (s.drop ((yJ vp (c::s)).2.1 - 1)) with
   |none=>rw[hl] at h;cases h
   |some l =>
    rw[hl] at h;cases h;rcases List.mem_cons.1 hb with rfl|hb
    ·exact⟨c,s,(yJ vp (c::s)).2.1,by omega,by rw[← hw],fun x hx=>hx⟩
    obtain⟨c',r,n,h1,h2,h3⟩:=zDP (s.drop _) hl hb;exact⟨c',r,n,h1,h2,fun x hx=>List.mem_cons_of_mem _ (List.mem_of_mem_drop (h3 x hx))⟩
  cases h
 termination_by s=>s.length
 decreasing_by all_goals (simp only[List.length_drop,List.length_cons];omega)
theorem zMp {c:Nat} {r:List Nat} {b:BTok} {n:Nat} (h:yJ vp (c::r)=(b,n,0)) :
  (b.1=4→yA c=true∧yT c=false∧b=(4,(c::r).take (numN (c::r)),(vp ((c::r).take (numN (c::r)))).1)∧(vp ((c::r).take (numN (c::r)))).2=0) ∧
  (b.1=5→c=34∧nth0 r (strN false r)=34∧b=(5,r.take (strN false r),(vp ((c::r).take (strN false r+2))).1)∧(vp ((c::r).take (strN false r+2))).2=0) ∧
  (b.1=2→c=63∧yT (nth0 r 0)=true∧b=(2,r.take (cntW yF r),VZ)∧(r.take (cntW yF r)).length≤12) ∧
  (b.1=6→c=35∧yT (nth0 r 0)=true∧b=(6,r.take (cntW yF r),VSym (r.take (cntW yF r)))∧(r.take (cntW yF r)).length≤12):=by
 unfold yJ at h;have e0:nth0 (c::r) 0=c:=rfl;have e1:nth0 (c::r) 1=nth0 r 0:=rfl;have e2:(c::r).drop 1=r:=rfl;have e3:∀i,nth0 (c::r) (i+1)=nth0 r i:=fun _=>rfl
 simp only[e0,e1,e2] at h;have no:∀k:Int,b.1=k→(k≠4∧k≠5∧k≠2∧k≠6)→(b.1=4→False)∧(b.1=5→False)∧(b.1=2→False)∧(b.1=6→False):=fun k hk ⟨a1,a2,a3,a4⟩=>⟨fun h=>a1 (hk ▸ h),fun h=>a2 (hk ▸ h),fun h=>a3 (hk ▸ h),fun h=>a4 (hk ▸ h)⟩
 split at h
 ·injection h with h1 h2
  subst h1;exact⟨(fun h=>by cases h),(fun h=>by cases h),(fun h=>by cases h),(fun h=>by cases h)⟩
 rename_i hl;split at h
 ·rename_i hd;injection h with h1 h2
  injection h2 with h2 h3
  subst h1;refine⟨fun _=>⟨hd,by simpa using hl,rfl,?_⟩,(fun h=>by cases h),(fun h=>by cases h),(fun h=>by cases h)⟩;split at h3
  ·exact h3
  cases h3
 split at h
 ·rename_i hc;split at h
  ·rename_i hq;injection h with h1 h2
   injection h2 with h2 h3
   subst h1;refine⟨(fun h=>by cases h),fun _=>⟨hc,hq,rfl,?_⟩,(fun h=>by cases h),(fun h=>by cases h)⟩;split at h3
   ·assumption
   cases h3
  injection h with h1 h2
  injection h2 with h2 h3
  cases h3
 split at h
 ·rename_i hc;injection h with h1 h2
  injection h2 with h2 h3
  subst h1;refine⟨(fun h=>by cases h),(fun h=>by cases h),fun _=>⟨hc.1,hc.2,rfl,?_⟩,(fun h=>by cases h)⟩;split at h3
  ·cases h3
  dsimp only at *;omega
 split at h
 ·injection h with h1 h2
  subst h1;exact⟨(fun h=>by cases h),(fun h=>by cases h),(fun h=>by cases h),(fun h=>by cases h)⟩
 split at h
 ·rename_i hc;injection h with h1 h2
  injection h2 with h2 h3
  subst h1;refine⟨(fun h=>by cases h),(fun h=>by cases h),(fun h=>by cases h),fun _=>⟨hc.1,hc.2,rfl,?_⟩⟩;split at h3
  ·cases h3
  dsimp only at *;omega
 split at h
 ·injection h with h1 h2
  subst h1;exact⟨(fun h=>by cases h),(fun h=>by cases h),(fun h=>by cases h),(fun h=>by cases h)⟩
 split at h
 ·injection h with h1 h2
  subst h1;exact⟨(fun h=>by cases h),(fun h=>by cases h),(fun h=>by cases h),(fun h=>by cases h)⟩
 injection h with h1 h2
 injection h2 with h2 h3
 cases h3
def zMl(w:List Nat):Prop:=∃c p,w=c::p∧yT c=true∧(∀x ∈ c::p,yF x=true)∧(c::p).length≤12
theorem zNc{r:List Nat}(h1:yT (nth0 r 0)=true)(h2:(r.take (cntW yF r)).length≤12):zMl (r.take (cntW yF r)):=by
 cases r with
 |nil=>exact absurd h1 (by decide)
 |cons c r =>
  have hc:yT c=true:=h1;have hn:yF c=true:=by unfold yF;rw[hc];rfl
  have hC:=zII (q:=yF) (c::r);rw[cntW,if_pos hn,List.take_succ_cons] at *;exact⟨c,_,rfl,hc,hC,h2⟩
theorem zTT {c:Nat} {r:List Nat} {b:BTok} {n:Nat} (hc:c≠10∧c≠32∧c≠59) (h:yJ vp (c::r)=(b,n,0)) (hb:b.1=4∨b.1=5∨b.1=6) :
  ∃p,LX vp p [b]∧(∀x ∈ p,x ∈ c::r)∧p.length≤b.2.1.length+2∧((zMl b.2.1∧p=35::b.2.1∧b.2.2=VSym b.2.1)∨vp p=(b.2.2,0)):=by
 obtain⟨w4,w5,w2,w6⟩:=zMp h;rcases hb with hb|hb|hb
 ·obtain⟨h1,h2,h3,h4⟩:=w4 hb;refine⟨(c::r).take (numN (c::r)),?_,fun x hx=>List.mem_of_mem_take hx,by rw[h3];simp<;>omega,.inr (by rw[h3];exact Prod.ext rfl h4)⟩;intro q hq;have ke:0<numN (c::r):=by
   have:0<cntW yA (c::r):=by rw[cntW,if_pos h1];omega
   unfold numN;dsimp only;split<;>omega
  have hz:=zI8 (c::r);have hF:=zTN (s:=c::r) hq;generalize hm:numN (c::r)=m at *;obtain⟨m,rfl⟩:∃k,m=k+1:=⟨m - 1,by omega⟩;rw[List.take_succ_cons] at *;refine zFj (n:=m+1) hc ?_ (by rw[List.length_take];simp at hz;omega);have ht:(c::r.take m++q).take (m+1)=c::r.take m:=by
   rw[List.cons_append,List.take_succ_cons,List.take_append_of_le_length (by rw[List.length_take];simp at hz;omega),List.take_take,Nat.min_self]
  unfold yJ;rw[show nth0 (c::r.take m++q) 0=c from rfl,if_neg (by rw[h2];simp),if_pos h1,hF];dsimp only;rw[ht,h4,h3]
  rfl
 ·obtain⟨rfl,h2,h3,h4⟩:=w5 hb;have hA:strN false r<r.length:=by
   rcases Nat.lt_or_ge (strN false r) r.length with h'|h'
   ·exact h'
   rw[zFh h'] at h2;cases h2
  have hp:(34::r).take (strN false r+2)=34::(r.take (strN false r)++[34]):=by
   rw[List.take_succ_cons,List.take_succ]
   congr 2
   unfold nth0 at h2;rw[List.getElem?_eq_getElem hA] at h2 ⊢
   simpa using h2
  refine⟨(34::r).take (strN false r+2),?_,fun x hx=>List.mem_of_mem_take hx,by rw[h3];simp<;>omega,.inr (by rw[h3];exact Prod.ext rfl h4)⟩;intro q hq;have hs:=zNR q r false h2;have hl:(r.take (strN false r)).length=strN false r:=by rw[List.length_take];omega
  rw[hp] at h3 h4 ⊢;refine zFj (n:=strN false r+2) (by decide) ?_ (by simp;omega);have e1:(34::(r.take (strN false r)++[34])++q).drop 1=r.take (strN false r)++34::q:=by simp
  have e2:nth0 (34::(r.take (strN false r)++[34])++q) (strN false r+1)=34:=by
   show nth0 ((r.take (strN false r)++[34])++q) (strN false r)=34
   rw[List.append_assoc];have:=zOQ (s:=r.take (strN false r)) (r:=[34]++q);rw[hl] at this;rw[this];rfl
  have e3:(34::(r.take (strN false r)++[34])++q).take (strN false r+2)=34::(r.take (strN false r)++[34]):=by
   rw[List.take_append_of_le_length (by simp;omega),List.take_of_length_le (by simp;omega)]
  have e4:(r.take (strN false r)++34::q).take (strN false r)=r.take (strN false r):=by
   rw[List.take_append_of_le_length (by omega),List.take_take,Nat.min_self]
  unfold yJ;rw[show nth0 (34::(r.take (strN false r)++[34])++q) 0=34 from rfl,if_neg (by decide),if_neg (by decide),if_pos rfl];simp only[e1,hs,e2,e3,e4,if_true,h4,h3]
 obtain⟨rfl,h2,h3,h4⟩:=w6 hb;have hn:=zNc h2 h4;refine⟨35::b.2.1,?_,?_,by simp,.inl ⟨by rw[h3];exact hn,rfl,by rw[h3]⟩⟩
 ·rw[h3];obtain⟨c,p,e,a1,a2,a3⟩:=hn;dsimp only;rw[e];exact yGP a1 a2 a3
 rw[h3];intro x hx;rcases List.mem_cons.1 hx with rfl|hx
 ·exact List.mem_cons_self ..
 exact List.mem_cons_of_mem _ (List.mem_of_mem_take hx)
theorem zPf{c:Nat}{r:List Nat}{b:BTok}{n:Nat}(h:yJ vp (c::r)=(b,n,0))(hb:b.1=2):zMl b.2.1∧b=(2,b.2.1,VZ)∧∀x ∈ b.2.1,x ∈ c::r:=by
 obtain⟨_,_,w2,_⟩:=zMp h;obtain⟨rfl,h2,h3,h4⟩:=w2 hb;rw[h3];exact⟨zNc h2 h4,rfl,fun x hx=>List.mem_cons_of_mem _ (List.mem_of_mem_take hx)⟩
structure VtOK (vt:Val→List Nat):Prop where
 parse:∀p v,vp p=(v,0)→vt v=p
 sym:∀w,zMl w→vt (VSym w)=35::w
 tru:vt ⟨4,1,[]⟩=[116,114,117,101]
 fals:vt ⟨4,0,[]⟩=[102,97,108,115,101]
 nul:vt ⟨0,0,[]⟩=[110,117,108,108]
inductive UT where
 |any
 |cmp (op:Int) (e:ET)
 |rng (low high:Bool) (a b:ET)
 |not (t:UT)
 |list (ks:UT)
 |one (t:UT)
 |cons (t ks:UT)
def ET.ns(e:ET):List SNode:=(e.g []).1
def UT.g:UT→List STst→List STst×List Int
 |.any,T=>(T++[⟨1,[],[],false,false,[]⟩],[(T.length:Int)])
 |.cmp op e,T=>(T++[⟨op,e.ns,[],false,false,[]⟩],[(T.length:Int)])
 |.rng lo hi a b,T=>(T++[⟨7,a.ns,b.ns,lo,hi,[]⟩],[(T.length:Int)])
 |.not t,T=>((t.g T).1++[⟨8,[],[],false,false,(t.g T).2⟩],[((t.g T).1.length:Int)])
 |.list ks,T=>((ks.g T).1++[⟨9,[],[],false,false,(ks.g T).2⟩],[((ks.g T).1.length:Int)])
 |.one t,T=>t.g T
 |.cons t ks,T=>((ks.g (t.g T).1).1,(t.g T).2++(ks.g (t.g T).1).2)
def UT.isO:UT→Prop
 |.list _=>False
 |.one _=>False
 |.cons _ _=>False
 |_=>True
def UT.isT:UT→Prop
 |.one _=>False
 |.cons _ _=>False
 |_=>True
theorem UT.isO.t{u:UT}(h:u.isO):u.isT:=by cases u<;>first|trivial|exact h.elim
def UT.num:UT→Nat
 |.one _=>1
 |.cons _ ks=>ks.num+1
 |_=>0
structure EOK (L:List BT) (e:ET):Prop where
 isE:e.isE
 wf:e.wf L
 deep:e.dp≤12
 few:e.ns.length≤60
def UT.wf(L:List BT):UT→Prop
 |.any=>True
 |.cmp op e=>(2≤op∧op≤6)∧EOK L e
 |.rng _ _ a b=>EOK L a∧EOK L b
 |.not t=>t.isT∧t.wf L
 |.list ks=>2≤ks.num∧ks.wf L
 |.one t=>t.isO∧t.wf L
 |.cons t ks=>(t.isO∧t.wf L)∧0<ks.num∧ks.wf L
def UT.nd:UT→Nat
 |.not t=>t.nd+1
 |.list ks=>ks.nd
 |.one t=>t.nd
 |.cons t ks=>max t.nd ks.nd
 |_=>0
def UT.tl:UT→Nat
 |.any=>1
 |.cmp _ e=>e.tl+3
 |.rng _ _ a b=>a.tl+b.tl+6
 |.not t=>t.tl+5
 |.list ks=>ks.tl
 |.one t=>t.tl
 |.cons t ks=>t.tl+2+ks.tl
def zYY{l:List Tok}{i j:Nat}(h:i≤j):wS l j≤wS l i:=by
 obtain⟨k,rfl⟩:∃k,j=i+k:=⟨j - i,by omega⟩;clear h
 induction k with
 |zero=>exact Nat.le_refl _
 |succ k ih =>
  refine Nat.le_trans ?_ ih;rcases Nat.lt_or_ge (i+k) l.length with h|h
  ·rw[zMz (i:=i+k) (List.getElem?_eq_getElem h)];exact Nat.le_add_left _ _
  unfold wS;rw[List.drop_of_length_le (by omega)];simp
def zXR{l:List Tok}{i j:Nat}(h:i<j)(hj:j≤l.length):9+wS l j≤wS l i:=by
 rw[zMz (List.getElem?_eq_getElem (by omega:i<l.length))];have:=zYY (l:=l) (show i+1≤j from h);omega
def zGk{l:List Tok}{i:Nat}(hi:i≤l.length)(h:(zH l i).2.2=0):∃e,EOK (l.map Tok.b) e∧(zH l i).1.map Node.s=e.ns∧i<(zH l i).2.1∧(zH l i).2.1≤l.length∧e.tl+wS l (zH l i).2.1≤wS l i:=by
 obtain⟨f,a,i',d',T,h1,h2,h3⟩:=(zEx hi).1 h;obtain⟨_,e,e1,e2,e3,e4,e5,e6⟩:=zJk _ _ _ _ _ _ _ _ _ h1 (by omega) (by omega);obtain⟨k1,k2,k3,k4,k5⟩:=xO _ _ _ _ _ _ h1 hi (by omega) trivial;rw[h3];have hf:T.length=e.ns.length:=by have:=congrArg List.length e3;simpa [ET.ns] using this
 refine⟨e,⟨e1,e2,?_,by omega⟩,e3,?_,k2,e6⟩
 ·rw[ET.dk_high (Nat.zero_le _)] at e5;omega
 simp only[List.length_nil] at k4;dsimp only;omega
def GUt(l:List Tok)(c:UC)(i n:Nat)(T:List STst):RU→Prop
 |.ok k i' n' T'=>n'=n∧∃u:UT,(match c with|.one=>u.isO|_=>u.isT)∧u.wf (l.map Tok.b)∧T'.map Test.s=(u.g T).1∧(u.g T).2=[(k:Int)]∧(n≤4→u.nd+n≤4)∧u.tl+2 * wS l i'≤2 * wS l i
 |.oks K i' n' T'=>n'=n∧((K=c.kl∧T'.map Test.s=T∧wS l i'≤wS l i)∨∃us:UT,0<us.num∧us.wf (l.map Tok.b)∧T'.map Test.s=(us.g T).1∧xE K=xE c.kl++(us.g T).2∧K.length=c.kl.length+us.num∧(n≤4→us.nd+n≤4)∧us.tl+2+2 * wS l i'≤2 * wS l i)
 |.pan _ _=>True
def zNd(a b:List Nat):xE (a++b)=xE a++xE b:=List.map_append
def zOI {l:List Tok} {op:Int} {p:Int×Int} {i n k i' n':Nat} {T T':List Test} (hS:2≤op∧op≤6) (h:cmpX l op p i n T=.ok k i' n' T') (hi:i≤l.length) :
  n'=n∧∃u:UT,u.isO∧u.wf (l.map Tok.b)∧T'.map Test.s=(u.g (T.map Test.s)).1∧(u.g (T.map Test.s)).2=[(k:Int)]∧(n≤4→u.nd+n≤4)∧u.tl+2 * wS l i'≤2 * wS l i:=by
 unfold cmpX at h;split at h
 ·rename_i h0;cases h;obtain⟨e,e1,e2,e3,e4,e5⟩:=zGk hi h0;have:=zXR e3 e4;refine⟨rfl,.cmp op e,trivial,⟨hS,e1⟩,?_,by simp [UT.g],fun h=>by simpa [UT.nd] using h,by simp only[UT.tl];omega⟩;rw[List.map_append,UT.g,List.map_cons,wY,e2];rfl
 cases h
def zPe{l:List Tok}{i:Nat}:∀ {os:List (List Nat×Int)} {op:Int},kL l i os=some op→∃w,(w,op) ∈ os∧isW l i w=true
 |[],op,h=>by simp [kL] at h
 |o::os,op,h=>by
  unfold kL at h;split at h
  ·rename_i hw;cases h;exact⟨o.1,List.mem_cons_self ..,hw⟩
  obtain⟨w,h1,h2⟩:=zPe h;exact⟨w,List.mem_cons_of_mem _ h1,h2⟩
def yAJ{w:List Nat}{op:Int}(h:(w,op) ∈ zBq):2≤op∧op≤6:=by
 simp only[zBq,List.mem_cons,List.mem_nil_iff,or_false,Prod.mk.injEq] at h;omega
def zFf{l:List Tok}:∀(f:Nat) (c:UC) (i n:Nat) (T:List Test) (r:RU),UX l f c i n T=some r→i≤l.length→GUt l c i n (T.map Test.s) r
 |0,c,i,n,T,r,h,_=>by simp [UX] at h
 |f+1,.one,i,n,T,r,h,hi=>by
  have ih:=zFf (l:=l) f;rw[UX] at h;split at h
  ·rename_i ha;cases h;have hw:isW l i [45]=true:=by unfold anyX at ha;simp only[Bool.and_eq_true] at ha;exact ha.1
   have:=jG hw;refine⟨rfl,.any,trivial,trivial,?_,by simp [UT.g],fun h=>by simpa [UT.nd] using h,by simp only[UT.tl];omega⟩;rw[List.map_append,UT.g,List.map_cons,wY];rfl
  split at h
  ·rename_i hx;have hw:isW l i [110,111,116]=true∧isW l (i+1) [40]=true:=by unfold notX at hx;simpa only [Bool.and_eq_true] using hx
   have w1:=jG hw.1;have w2:9+wS l (i+2)≤wS l (i+1):=jG hw.2;have hA:=zY hw.2;split at h
   ·cases h;trivial
   rename_i h4;cases hh:UX l f .tests (i+2) (n+1) T with
   |none=>rw[hh] at h;cases h
   |some r' =>
    rw[hh] at h;have hg:=ih _ _ _ _ _ hh (by omega);cases r' with
    |oks ks j m T1=>exact absurd (zZ _ _ _ _ _ _ hh (by omega)).1 id
    |pan e j=>cases h;trivial
    |ok k j m T1 =>
     dsimp only at h;split at h
     ·rename_i hU;cases h;have w3:=jG hU;obtain⟨rfl,u,u1,u2,u3,u4,u5,u6⟩:=hg;refine⟨by omega,.not u,trivial,⟨u1,u2⟩,?_,?_,?_,by simp only[UT.tl];omega⟩
      ·rw[List.map_append,u3,UT.g,List.map_cons,wY,u4];rfl
      ·rw[UT.g,← u3,List.length_map]
      intro h;simp only[UT.nd];have:=u5 (by omega);omega
     cases h;trivial
  split at h
  ·rename_i hr;cases h;unfold xQ at hr;simp only[Bool.and_eq_true,Bool.or_eq_true,beq_iff_eq] at hr;obtain⟨hV,hW,hL⟩:=hr;have kg:i<l.length∧9+wS l (i+1)≤wS l i:=by
    rcases hV with h|h<;>exact⟨zY h,jG h⟩
   obtain⟨a,a1,a2,a3,a4,a5⟩:=zGk (i:=i+1) (by omega) hW;have w2:=jG hL;have hX:=zY hL;unfold rngX;split
   ·rename_i hb;obtain⟨b,b1,b2,b3,b4,b5⟩:=zGk (by omega) hb;split
    ·rename_i hq;have w3:9+wS l ((zH l ((zH l (i+1)).2.1+1)).2.1+1)≤wS l (zH l ((zH l (i+1)).2.1+1)).2.1:=by
      rw[Bool.or_eq_true] at hq;rcases hq with h|h<;>exact jG h
     refine⟨rfl,.rng (isW l i [40]) (isW l (zH l ((zH l (i+1)).2.1+1)).2.1 [41]) a b,trivial,⟨a1,b1⟩,?_,by simp [UT.g],fun h=>by simpa [UT.nd] using h,by simp only[UT.tl];omega⟩;rw[List.map_append,UT.g,List.map_cons,wY,a2,b2];rfl
    trivial
   trivial
  split at h
  ·rename_i op hs;cases h;obtain⟨w,hw,hN⟩:=zPe hs;have:=jG hN;have hA:=zY hN;cases hc:cmpX l op (plW l i) (i+1) n T with
   |oks ks j m T1=>unfold cmpX at hc;split at hc<;>cases hc
   |pan e j=>trivial
   |ok k j m T1 =>
    obtain⟨h1,u,h2,h3,h4,h5,h6,h7⟩:=zOI (yAJ hw) hc (by omega);exact⟨h1,u,h2,h3,h4,h5,h6,by omega⟩
  cases h;cases hc:cmpX l 2 (plW l i) i n T with
  |oks ks j m T1=>unfold cmpX at hc;split at hc<;>cases hc
  |pan e j=>trivial
  |ok k j m T1=>exact zOI (by decide) hc hi
 |f+1,.list ks,i,n,T,r,h,hi=>by
  have ih:=zFf (l:=l) f;rw[UX] at h;split at h
  ·rename_i hc;rw[Bool.and_eq_true] at hc;have hA:=zY hc.1;have w0:=jG hc.1;cases hh:UX l f .one (i+1) n T with
   |none=>rw[hh] at h;cases h
   |some r' =>
    rw[hh] at h;have hg:=ih _ _ _ _ _ hh (by omega);have hk:=zZ _ _ _ _ _ _ hh (by omega);cases r' with
    |oks ks j m T1=>exact absurd hk.1 id
    |pan e j=>cases h;trivial
    |ok k j m T1 =>
     dsimp only at h;obtain⟨_,k1,k2,k3,_⟩:=hk;obtain⟨rfl,u,u1,u2,u3,u4,u5,u6⟩:=hg;have hH:=ih _ _ _ _ _ h k2;have hE:=zZ _ _ _ _ _ _ h k2;cases r with
     |ok k' j' m' T'=>exact absurd hE.1 id
     |pan e j'=>trivial
     |oks K j' m' T' =>
      obtain⟨g1,g2⟩:=hH;refine⟨g1,.inr ?_⟩;rcases g2 with ⟨g2,g3,g4⟩|⟨us,g2,g3,g4,g5,g6,g7,g8⟩
      ·refine⟨.one u,Nat.one_pos,⟨u1,u2⟩,by rw[g3,u3];rfl,?_,?_,u5,by simp only[UT.tl];omega⟩
       ·rw[g2];show xE (ks++[k])=xE ks++(u.g _).2;rw[zNd,u4];rfl
       rw[g2];show (ks++[k]).length=ks.length+1;simp
      refine⟨.cons u us,Nat.succ_pos _,⟨⟨u1,u2⟩,g2,g3⟩,by rw[g4,u3];rfl,?_,?_,?_,by simp only[UT.tl];omega⟩
      ·rw[g5,u3];show xE (ks++[k])++_=xE ks++((u.g _).2++_);rw[zNd,u4,List.append_assoc];rfl
      ·rw[g6];show (ks++[k]).length+us.num=ks.length+(us.num+1);simp;omega
      intro h;have:=u5 h;have:=g7 h;simp only[UT.nd];omega
  cases h;exact⟨rfl,.inl ⟨rfl,rfl,Nat.le_refl _⟩⟩
 |f+1,.tests,i,n,T,r,h,hi=>by
  have ih:=zFf (l:=l) f;rw[UX] at h;cases hh:UX l f .one i n T with
  |none=>rw[hh] at h;cases h
  |some r' =>
   rw[hh] at h;have hg:=ih _ _ _ _ _ hh hi;have hk:=zZ _ _ _ _ _ _ hh hi;cases r' with
   |oks ks j m T1=>exact absurd hk.1 id
   |pan e j=>cases h;trivial
   |ok k j m T1 =>
    dsimp only at h;obtain⟨_,k1,k2,k3,_⟩:=hk;obtain⟨rfl,u,u1,u2,u3,u4,u5,u6⟩:=hg;cases h2:UX l f (.list [k]) j m T1 with
    |none=>rw[h2] at h;cases h
    |some r2 =>
     rw[h2] at h;have hH:=ih _ _ _ _ _ h2 k2;have hE:=zZ _ _ _ _ _ _ h2 k2;cases r2 with
     |ok k' j' m' T'=>exact absurd hE.1 id
     |pan e j'=>cases h;trivial
     |oks K j' m' T' =>
      obtain⟨g1,g2⟩:=hH;rcases g2 with ⟨g2,g3,g4⟩|⟨us,g2,g3,g4,g5,g6,g7,g8⟩
      ·have g2':K=[k]:=g2;subst g2';dsimp only at h;cases h;exact⟨g1,u,u1.t,u2,by rw[g3,u3],u4,u5,by omega⟩
      have hu:K.length=us.num+1:=by rw[g6];show 1+us.num=_;omega
      match K,hu,h with
      |[],hu,_=>simp at hu
      |[a],hu,_=>simp at hu;omega
      |a::b::K,hu,h =>
       dsimp only at h;cases h;refine⟨g1,.list (.cons u us),trivial,⟨by simp only[UT.num];omega,⟨u1,u2⟩,g2,g3⟩,?_,?_,?_,by simp only[UT.tl];omega⟩
       ·rw[List.map_append,g4,u3,List.map_cons,wY,g5]
        show _=(us.g (u.g _).1).1++[⟨9,[],[],false,false,(u.g _).2++(us.g (u.g _).1).2⟩]
        rw[u4,u3];rfl
       ·show [(((us.g (u.g _).1).1.length:Nat):Int)]=_
        rw[← u3,← g4,List.length_map]
       intro h;have:=u5 h;have:=g7 h;simp only[UT.nd];omega
def zDn:Int→List Nat
 |2=>[61]|3=>[60]|4=>[60,61]|5=>[62]|6=>[62,61]|_=>[]
def lowB(b:Bool):BT:=sgB (if b then [40] else [91])
def zKZ(b:Bool):BT:=sgB (if b then [41] else [93])
def eqS(e:ET):STst:=⟨2,e.ns,[],false,false,[]⟩
def Alone(e:ET):Prop:=∃(l:List Tok) (f k n:Nat) (T:List Test),l.map Tok.b=e.ws∧UX l f .tests 0 0 []=some (.ok k l.length n T)∧T.map Test.s=[eqS e]
inductive UWs:UT→List BT→Prop where
 |any:UWs .any [sgB [45]]
 |cmp (op:Int) (e:ET):UWs (.cmp op e) (sgB (zDn op)::e.ws)
 |eqa (e:ET) (h:Alone e):UWs (.cmp 2 e) e.ws
 |rng (lo hi:Bool) (a b:ET):UWs (.rng lo hi a b) (lowB lo::(a.ws++sgB [46,46]::(b.ws++[zKZ hi])))
 |not {t:UT} {w:List BT} (h:UWs t w):UWs (.not t) (nmB [110,111,116]::sgB [40]::(w++[sgB [41]]))
 |list {ks:UT} {w:List BT} (h:UWs ks w):UWs (.list ks) w
 |one {t:UT} {w:List BT} (h:UWs t w):UWs (.one t) w
 |cons {t ks:UT} {w w':List BT} (h:UWs t w) (h':UWs ks w'):UWs (.cons t ks) (w++sgB [44]::w')
def NC(w:List BT):Prop:=∀b ∈ w,((b.1==1||b.1==7)&&b.2.1==[58])=false
theorem NC.app{a b:List BT}(h1:NC a)(h2:NC b):NC (a++b):=fun x hx=>(List.mem_append.1 hx).elim (h1 x) (h2 x)
theorem NC.cons{a:BT}{b:List BT}(h1:((a.1==1||a.1==7)&&a.2.1==[58])=false)(h2:NC b):NC (a::b):=fun x hx=>by
 rcases List.mem_cons.1 hx with rfl|hx
 ·exact h1
 exact h2 x hx
theorem NC.nil:NC []:=fun x hx=>by cases hx
theorem NC.par{w:List BT}(h:NC w)(m n:Nat):NC (parB m n w):=by
 unfold parB;split
 ·exact NC.cons rfl (h.app (NC.cons rfl NC.nil))
 exact h
theorem NC.op{n:Nat}{o:Int}{w:List Nat}(h:(w,o) ∈ opsX n):(((opBT n o).1==1||(opBT n o).1==7)&&(opBT n o).2.1==[58])=false:=by
 rcases n with _|_|_|_|_|_|n<;>simp only[opsX,List.mem_cons,List.mem_nil_iff,or_false,Prod.mk.injEq] at h
 ·obtain⟨_,rfl⟩:=h;rfl
 ·obtain⟨_,rfl⟩:=h;rfl
 ·rcases h with ⟨_,rfl⟩|⟨_,rfl⟩|⟨_,rfl⟩|⟨_,rfl⟩|⟨_,rfl⟩|⟨_,rfl⟩<;>rfl
 ·rcases h with ⟨_,rfl⟩|⟨_,rfl⟩<;>rfl
 rcases h with ⟨_,rfl⟩|⟨_,rfl⟩<;>rfl
theorem ET.nc{L:List BT}:∀e:ET,e.wf L→NC e.ws∧e.ws≠[]
 |.lit b,hw=>⟨NC.cons (by obtain⟨_,hb⟩:=hw;rcases hb with hb|hb|hb<;>simp [hb]) NC.nil,by simp [ET.ws]⟩
 |.word w v,hw=>by
  refine⟨NC.cons ?_ NC.nil,by simp [ET.ws]⟩;have:w≠[58]:=by rintro rfl;exact absurd hw.2 (by simp [zAj,xT])
  simp [nmB,this]
 |.var b,hw=>⟨NC.cons (by obtain⟨_,hb⟩:=hw;simp [hb]) NC.nil,by simp [ET.ws]⟩
 |.self,_=>⟨NC.cons rfl NC.nil,by simp [ET.ws]⟩
 |.un n e,hw=>by
  obtain⟨hn,_,he⟩:=hw;refine⟨NC.cons ?_ ((ET.nc e he).1.par _ _),by simp [ET.ws]⟩;rcases hn with rfl|rfl<;>rfl
 |.bin n o x y,hw=>by
  obtain⟨_,⟨w,hw⟩,⟨_,hx⟩,_,hy⟩:=hw;exact⟨((ET.nc x hx).1.par _ _).app (NC.cons (NC.op hw) ((ET.nc y hy).1.par _ _)),by simp [ET.ws]⟩
 |.call w op ks,hw=>by
  obtain⟨⟨_,_,hc,_⟩,_,hk⟩:=hw;have:w≠[58]:=by rintro rfl;exact absurd hc (by simp [uK,xT])
  exact⟨NC.cons (by simp [nmB,this]) (NC.cons rfl ((ET.nc ks hk).1.app (NC.cons rfl NC.nil))),by simp [ET.ws]⟩
 |.one e,hw=>ET.nc e hw.2
 |.cons e ks,hw=>⟨(ET.nc e hw.1.2).1.app (NC.cons rfl (ET.nc ks hw.2.2).1),by simp [ET.ws]⟩
theorem UWs.nc{L:List BT}{u:UT}{w:List BT}(h:UWs u w):u.wf L→NC w∧w≠[]:=by
 induction h with
 |any=>exact fun _=>⟨NC.cons rfl NC.nil,by simp⟩
 |cmp op e =>
  intro hw;obtain⟨⟨h1,h2⟩,h3⟩:=hw;refine⟨NC.cons ?_ (ET.nc e h3.wf).1,by simp⟩;rcases(by omega:op=2∨op=3∨op=4∨op=5∨op=6) with rfl|rfl|rfl|rfl|rfl<;>rfl
 |eqa e h=>exact fun hw=>ET.nc e hw.2.wf
 |rng lo hi a b =>
  intro hw;refine⟨NC.cons (by cases lo<;>rfl) ((ET.nc a hw.1.wf).1.app (NC.cons rfl ((ET.nc b hw.2.wf).1.app (NC.cons (by cases hi<;>rfl) NC.nil)))),by simp⟩
 |not h ih=>exact fun hw=>⟨NC.cons rfl (NC.cons rfl ((ih hw.2).1.app (NC.cons rfl NC.nil))),by simp⟩
 |list h ih=>exact fun hw=>ih hw.2
 |one h ih=>exact fun hw=>ih hw.2
 |cons h h' ih ih'=>exact fun hw=>⟨(ih hw.1.2).1.app (NC.cons rfl (ih' hw.2.2).1),by simp⟩
def EndB(r:List BT):Prop:=r=[]∨∃b r',r=b::r'∧b.1=7∧(b.2.1=[44]∨b.2.1=[41])
theorem EndB.isB{r:List BT}(h:EndB r){w:List Nat}(h1:w≠[44])(h2:w≠[41]):isB r w=false:=by
 rcases h with rfl|⟨b,r',rfl,h3,h4⟩
 ·rfl
 have:b.2.1≠w:=by
  rcases h4 with h4|h4<;>rw[h4]<;>intro h
  ·exact h1 h.symm
  exact h2 h.symm
 simp [Go.Ab.isB,this]
def zRW{k:Nat}{o:List Nat×Int}(h:o ∈ opsX k):o.1≠[44]∧o.1≠[41]∧o.1≠[46,46]∧o.1≠[93]:=by
 rcases k with _|_|_|_|_|_|m<;>simp only[opsX,List.mem_cons,List.mem_nil_iff,or_false] at h
 ·subst h;decide
 ·subst h;decide
 ·rcases h with rfl|rfl|rfl|rfl|rfl|rfl<;>decide
 ·rcases h with rfl|rfl<;>decide
 rcases h with rfl|rfl<;>decide
theorem EndB.noop{r:List BT}(h:EndB r):∀k,0≤k→∀o ∈ opsX k,Go.Ab.isB r o.1=false:=fun k _ o ho=>h.isB (zRW ho).1 (zRW ho).2.1
def zQ5{w:List Nat}{r:List BT}(h:w=[46,46]∨w=[41]∨w=[93]):∀k,0≤k→∀o ∈ opsX k,isB (sgB w::r) o.1=false:=fun k _ o ho=>by
 have:=zRW ho;have hY:w≠o.1:=by rcases h with rfl|rfl|rfl<;>intro h<;>simp [← h] at this
 simp [isB,sgB,hY]
def zHD {l:List Tok} {L:List BT} {i:Nat} {e:ET} {r:List BT} (he:EOK L e) (h:(l.map Tok.b).drop i=e.ws++r) (hr:∀k,0≤k→∀o ∈ opsX k,isB r o.1=false) (hi:i≤l.length) :
  ∃T,zH l i=(T,i+e.ws.length,0)∧T.map Node.s=e.ns:=by
 have hO:e.wk 0=e.ws:=by unfold ET.wk parB;rw[if_neg (by omega)]
 have kh:e.dk 0=e.dp:=ET.dk_high (by omega);obtain⟨a,T,q1,q2,f,q3⟩:=((ET.reads e).1 he.isE).1 0 (by omega) l L i 0 [] r (by rw[hO];exact h) he.wf he.isE (by have:=he.deep;omega) hr;have hf:T.length=e.ns.length:=by have:=congrArg List.length q1;simpa [ET.ns] using this
 rw[hO] at q3;exact⟨T,zIQ hi q3 (by have:=he.few;omega),q1⟩
def EU(l:List Tok)(c:UC)(i n:Nat)(T:List Test)(r:RU):Prop:=∃f,UX l f c i n T=some r
def qI{l:List Tok}{i:Nat}{b:BT}{r:List BT}(h:(l.map Tok.b).drop i=b::r)(w:List Nat):isW l i w=((b.1==1||b.1==7)&&b.2.1==w):=by rw[qL,h];rfl
def yIi{l:List Tok}{f i k i' n':Nat}{T T':List Test}{x:STst}(h:UX l f .one i 0 T=some (.ok k i' n' T'))(hT:T'.map Test.s=T.map Test.s++[x])(hx:x.op=2)(n:Nat):UX l f .one i n T=some (.ok k i' n T'):=by
 cases f with
 |zero=>simp [UX] at h
 |succ f =>
  have last:∀ {A:List Test} {y:Test},(A++[y]).map Test.s=T.map Test.s++[x]→y.s=x:=by
   intro A y h;rw[List.map_append] at h;have:=congrArg List.getLast? h
   simpa using this
  rw[UX] at h ⊢;split at h
  ·cases h;have:=last hT;rw[wY] at this;rw[← this] at hx;cases hx
  rename_i h1;rw[if_neg h1];split at h
  ·rw[if_neg (by decide)] at h;cases hh:UX l f .tests (i+2) (0+1) T with
   |none=>rw[hh] at h;cases h
   |some r =>
    rw[hh] at h;cases r with
    |pan e j=>cases h
    |oks ks j m T1=>cases h
    |ok k' j m T1 =>
     dsimp only at h;split at h
     ·cases h;have:=last hT;rw[wY] at this;rw[← this] at hx;cases hx
     cases h
  rename_i h2;rw[if_neg h2];split at h
  ·unfold rngX at h;split at h
   ·split at h
    ·cases h;have:=last hT;rw[wY] at this;rw[← this] at hx;cases hx
    cases h
   cases h
  rename_i h3;rw[if_neg h3];have key:∀op p j,some (cmpX l op p j 0 T)=some (.ok k i' n' T')→some (cmpX l op p j n T)=some (.ok k i' n T'):=by
   intro op p j h;unfold cmpX at h ⊢;split at h
   ·rename_i h0;rw[if_pos h0];cases h;rfl
   cases h
  split at h<;>exact key _ _ _ h
theorem Alone.one{e:ET}(h:Alone e):∃(l:List Tok) (f:Nat) (T:List Test),l.map Tok.b=e.ws∧UX l f .one 0 0 []=some (.ok 0 l.length 0 T)∧T.map Test.s=[eqS e]:=by
 obtain⟨l,f,k,n,T,h1,h2,h3⟩:=h;cases f with
 |zero=>simp [UX] at h2
 |succ f =>
  rw[UX] at h2;cases hh:UX l f .one 0 0 [] with
  |none=>rw[hh] at h2;cases h2
  |some r =>
   rw[hh] at h2;have hk:=zZ _ _ _ _ _ _ hh (Nat.zero_le _);cases r with
   |pan e j=>cases h2
   |oks ks j m T1=>exact absurd hk.1 id
   |ok a j m T1 =>
    obtain⟨_,k1,k2,k3,k4,k5,k6⟩:=hk;dsimp only at h2;cases hl:UX l f (.list [a]) j m T1 with
    |none=>rw[hl] at h2;cases h2
    |some r2 =>
     rw[hl] at h2;have hE:=zZ _ _ _ _ _ _ hl k2;have hZ:=zFf _ _ _ _ _ _ hl k2;have hs:=fun K i1 n1 T'=>zEq (l:=l) (f:=f) (ks:=[a]) (K:=K) (i:=j) (n:=m) (i1:=i1) (n1:=n1) (T:=T1) (T1:=T')
     cases r2 with
     |pan e j=>cases h2
     |ok k' j' m' T'=>exact absurd hE.1 id
     |oks K j' m' T' =>
      have ki:0<T1.length:=by omega
      obtain⟨g1,g2⟩:=hZ;rcases g2 with ⟨g2,g3,g4⟩|⟨us,g2,g3,g4,g5,g6,g7,g8⟩
      ·have g2':K=[a]:=g2;subst g2';dsimp only at h2;cases h2
       -- the list went on nowhere
       have hj:j=l.length:=by
        cases f with
        |zero=>simp [UX] at hl
        |succ f =>
         rw[UX] at hl;split at hl
         ·cases hG:UX l f .one (j+1) m T1 with
          |none=>rw[hG] at hl;cases hl
          |some r3 =>
           rw[hG] at hl;cases r3 with
           |pan e j=>cases hl
           |oks ks j m T1=>exact absurd (zZ _ _ _ _ _ _ hG (zY (by rename_i hc;rw[Bool.and_eq_true] at hc;exact hc.1))).1 id
           |ok a' j' m' T3 =>
            dsimp only at hl;have h8:=zZ _ _ _ _ _ _ hG (zY (by rename_i hc;rw[Bool.and_eq_true] at hc;exact hc.1));have h9:=zZ _ _ _ _ _ _ hl h8.2.2.1;obtain⟨_,_,_,_,_,_,M,hM,_⟩:=h9;have:=congrArg List.length hM;simp [UC.kl] at this
         cases hl;rfl
       subst hj;have hf:T1.length=1:=by
        have:=congrArg List.length (g3.symm.trans h3);simpa using this
       refine⟨l,f,T1,h1,?_,by rw[← g3];exact h3⟩;rw[hh];obtain rfl:k=0:=by omega
       subst k3;rfl
      exfalso;have hu:K.length=us.num+1:=by rw[g6];show 1+us.num=_;omega
      match K,hu,h2 with
      |[],hu,_=>simp at hu
      |[a],hu,_=>simp at hu;omega
      |a::b::K,hu,h2 =>
       dsimp only at h2;cases h2;have:=congrArg List.getLast? h3;simp [wY,eqS] at this
end Go.Ab
