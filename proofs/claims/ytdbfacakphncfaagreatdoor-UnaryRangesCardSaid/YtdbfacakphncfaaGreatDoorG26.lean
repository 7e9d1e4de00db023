/- Lemmas. -/
import Derived.Test.YtdbfacakphncfaaGreatDoorG06
set_option maxRecDepth 1000000
set_option maxHeartbeats 40000000
set_option linter.all false
namespace Go.Ab
def dv:List Int→Int
 |[]=>0
 |x::r=>x+10000 * dv r
def Dg(l:List Int):Prop:=∀x ∈ l,0≤x∧x<10000
def Nz(l:List Int):Prop:=∀x,l.getLast?=some x→x≠0
def pw(n:Nat):Int:=((10000 ^ n:Nat):Int)
def zDE(n:Nat):pw (n+1)=10000 * pw n:=by
 unfold pw;rw[Nat.pow_succ,Int.natCast_mul,Int.mul_comm];rfl
def zND:pw 0=1:=rfl
def zGg(n:Nat):1≤pw n:=by
 unfold pw;have:0<10000 ^ n:=Nat.pow_pos (by decide);omega
def yG4(a b:Nat):pw (a+b)=pw a * pw b:=by
 unfold pw;rw[Nat.pow_add,Int.natCast_mul]
def zWN{a b:Nat}(h:a≤b):pw a≤pw b:=by
 unfold pw;exact Int.ofNat_le.2 (Nat.pow_le_pow_right (by decide) h)
def jO:∀(a b:List Int),dv (a++b)=dv a+pw a.length * dv b
 |[],b=>by simp [dv,zND]
 |x::a,b=>by
  rw[List.cons_append,dv,jO a b,dv,List.length_cons,zDE,Int.mul_add,Int.mul_assoc,Int.add_assoc]
def qM:∀ {a:List Int},Dg a→0≤dv a
 |[],_=>by simp [dv]
 |x::a,h=>by
  have h1:=h x List.mem_cons_self;have h2:=qM (fun y hy=>h y (List.mem_cons_of_mem _ hy):Dg a);rw[dv];omega
def zGX:∀ {a:List Int},Dg a→dv a<pw a.length
 |[],_=>by simp [dv,zND]
 |x::a,h=>by
  have h1:=h x List.mem_cons_self;have h2:=zGX (fun y hy=>h y (List.mem_cons_of_mem _ hy):Dg a);rw[dv,List.length_cons,zDE];omega
def zA5:Dg []:=fun x h=>by cases h
def zER{x:Int}{l:List Int}(h:0≤x∧x<10000)(h2:Dg l):Dg (x::l):=by
 intro y hy;rcases List.mem_cons.1 hy with rfl|hy
 ·exact h
 exact h2 y hy
def zHK{a b:List Int}(h:Dg a)(h2:Dg b):Dg (a++b):=by
 intro y hy;rcases List.mem_append.1 hy with hy|hy
 ·exact h y hy
 exact h2 y hy
def zGc{a:List Int}(h:Dg a)(k:Nat):Dg (a.take k):=fun y hy=>h y (List.mem_of_mem_take hy)
def zPG{a:List Int}(h:Dg a)(k:Nat):Dg (a.drop k):=fun y hy=>h y (List.mem_of_mem_drop hy)
def zIj:Nz []:=fun x h=>by cases h
def zRa{a:List Int}(h:Dg a)(hz:Nz a)(hn:a≠[]):pw (a.length - 1)≤dv a:=by
 obtain⟨b,x,rfl⟩:∃b x,a=b++[x]:=⟨a.dropLast,a.getLast hn,(List.dropLast_concat_getLast hn).symm⟩;have hx:=h x (by simp);have hx0:=hz x (by simp);have hb:0≤dv b:=qM (fun y hy=>h y (List.mem_append_left _ hy));rw[jO,List.length_append,List.length_singleton,Nat.add_sub_cancel,dv,dv,Int.mul_zero,Int.add_zero];have:=Int.mul_le_mul_of_nonneg_left (show 1≤x by omega) (show 0≤pw b.length from by have:=zGg b.length;omega);omega
def zUI{a:List Int}(h:Dg a)(hz:Nz a){k:Nat}(hk:dv a<pw k):a.length≤k:=by
 by_cases hn:a=[]
 ·subst hn;simp
 have h1:=zRa h hz hn;refine Nat.le_of_not_lt fun hl=>?_
 have:=zWN (show k≤a.length - 1 by omega);omega
def zOp{a:List Int}(h:Dg a)(hz:Nz a)(hn:a≠[]):1≤dv a:=by
 have:=zRa h hz hn;have:=zGg (a.length - 1);omega
def zZO{a:List Int}(h:Dg a)(hz:Nz a)(h0:dv a=0):a=[]:=by
 by_cases hn:a=[]
 ·exact hn
 have:=zOp h hz hn;omega
structure RN where
 neg:Bool
 d:Sl Int
def RN.c(x:RN):List Tree:=[.bool x.neg,x.d.t intC]
def RN.v(x:RN):Int:=if x.neg then - dv x.d.l else dv x.d.l
structure RNK (k:Nat) (x:RN):Prop where
 dg:Dg x.d.l
 nz:Nz x.d.l
 sg:x.neg=true→x.d.l≠[]
 ln:x.d.l.length≤k
def yAw{d:List Int}{k:Nat}(hk:k<d.length)(h0:d[k]=0):dv (d.take (k+1))=dv (d.take k):=by
 rw[List.take_succ_eq_append_getElem hk,jO,h0];simp [dv]
def zYx{d:List Int}{k:Nat}(hk:k<d.length)(h0:d[k]≠0):Nz (d.take (k+1)):=by
 intro x hx;rw[List.take_succ_eq_append_getElem hk,List.getLast?_concat] at hx;cases hx;exact h0
def zGt(a:List Int)(i:Nat)(h:Dg a):∃x:Int,(0≤x∧x<10000∧dv (a.drop i)=x+10000 * dv (a.drop (i+1))) ∧
  (decide ((i:Int)<(a.length:Int))=true∧a[i]?=some x∨decide ((i:Int)<(a.length:Int))=false∧x=0):=by
 by_cases hi:i<a.length
 ·have:=h a[i] (List.getElem_mem hi);refine⟨a[i],⟨this.1,this.2,by rw[List.drop_eq_getElem_cons hi,dv]⟩,.inl ⟨decide_eq_true (by omega),List.getElem?_eq_getElem hi⟩⟩
 refine⟨0,⟨by omega,by omega,by rw[List.drop_eq_nil_of_le (by omega),List.drop_eq_nil_of_le (by omega)];rfl⟩,.inr ⟨decide_eq_false (by omega),rfl⟩⟩
def zF1{a:List Int}{i:Nat}(h:decide ((i:Int)<(a.length:Int))=false):dv (a.drop i)=0:=by
 rw[List.drop_eq_nil_of_le (by have:=of_decide_eq_false h;omega)];rfl
def UpI(a b:List Int)(i:Nat)(more:Int)(out:List Int):Prop :=
 out.length=i∧i≤max a.length b.length+1∧(i≤max a.length b.length∨more=0)∧Dg out∧(0≤more∧more≤1)∧dv out+pw i * (more+dv (a.drop i)+dv (b.drop i))=dv a+dv b
def yIf(a b:List Int):UpI a b 0 0 []:=⟨rfl,by omega,.inr rfl,zA5,by omega,by simp [dv,zND]⟩
def zTQ{t:Int}(h:0≤t):t.tmod 10000=t % 10000:=Int.tmod_eq_emod_of_nonneg h
def zKf{t:Int}(h:0≤t):t.tdiv 10000=t / 10000:=Int.tdiv_eq_ediv_of_nonneg h
def yJc {a b:List Int} {i:Nat} {more:Int} {out:List Int} {x y:Int} (h:UpI a b i more out) (hx:0≤x∧x<10000∧dv (a.drop i)=x+10000 * dv (a.drop (i+1))) (hy:0≤y∧y<10000∧dv (b.drop i)=y+10000 * dv (b.drop (i+1)))
  (hn:i<a.length∨i<b.length∨more > 0):UpI a b (i+1) ((more+x+y).tdiv 10000) (out++[(more+x+y).tmod 10000]):=by
 obtain⟨h1,h2,h3,h4,h5,h6⟩:=h;obtain⟨x0,x1,x2⟩:=hx;obtain⟨y0,y1,y2⟩:=hy;have ht:0≤more+x+y:=by omega
 rw[zTQ ht,zKf ht];refine⟨by simp [h1],by omega,?_,zHK h4 (zER (by omega) zA5),by omega,?_⟩
 ·by_cases hl:i<max a.length b.length
  ·exact .inl hl
  refine .inr ?_;have e1:a.drop i=[]:=List.drop_eq_nil_of_le (by omega);have e2:b.drop i=[]:=List.drop_eq_nil_of_le (by omega);have e3:a.drop (i+1)=[]:=List.drop_eq_nil_of_le (by omega);have e4:b.drop (i+1)=[]:=List.drop_eq_nil_of_le (by omega);rw[e1,e3] at x2;rw[e2,e4] at y2;simp only[dv] at x2 y2;omega
 rw[← h6,x2,y2,jO,h1,dv,dv,zDE,Int.mul_zero,Int.add_zero,Int.mul_assoc,Int.mul_left_comm,Int.add_assoc,← Int.mul_add]
 congr 2;omega
def zXA {a b:List Int} {i:Nat} {more:Int} {out:List Int} (h:UpI a b i more out) (ha:decide ((i:Int)<(a.length:Int))=false) (hb:decide ((i:Int)<(b.length:Int))=false) (hm:¬ more > 0) :
  Dg out∧dv out=dv a+dv b∧out.length≤max a.length b.length+1:=by
 obtain⟨h1,h2,h3,h4,h5,h6⟩:=h;rw[zF1 ha,zF1 hb,show more=0 by omega] at h6;exact⟨h4,by simpa using h6,by omega⟩
def DnI(a b:List Int)(i:Nat)(owed:Int)(out:List Int):Prop :=
 out.length=i∧i≤a.length∧Dg out∧(0≤owed∧owed≤1)∧dv out+pw i * (dv (a.drop i) - owed - dv (b.drop i))=dv a - dv b
def yI4(a b:List Int):DnI a b 0 0 []:=⟨rfl,by omega,zA5,by omega,by simp [dv,zND]⟩
def yJf {a b:List Int} {i:Nat} {owed:Int} {out:List Int} {x y:Int} (h:DnI a b i owed out) (hx:0≤x∧x<10000∧dv (a.drop i)=x+10000 * dv (a.drop (i+1))) (hy:0≤y∧y<10000∧dv (b.drop i)=y+10000 * dv (b.drop (i+1)))
  (hn:i<a.length):(x - owed - y<0→DnI a b (i+1) 1 (out++[x - owed - y+10000]))∧(¬ x - owed - y<0→DnI a b (i+1) 0 (out++[x - owed - y])):=by
 obtain⟨h1,h2,h4,h5,h6⟩:=h;obtain⟨x0,x1,x2⟩:=hx;obtain⟨y0,y1,y2⟩:=hy
 constructor
 ·intro hlt;refine⟨by simp [h1],by omega,zHK h4 (zER (by omega) zA5),by omega,?_⟩;rw[← h6,x2,y2,jO,h1,dv,dv,zDE,Int.mul_zero,Int.add_zero,Int.mul_assoc,Int.mul_left_comm,Int.add_assoc,← Int.mul_add]
  congr 2;omega
 intro hlt;refine⟨by simp [h1],by omega,zHK h4 (zER (by omega) zA5),by omega,?_⟩;rw[← h6,x2,y2,jO,h1,dv,dv,zDE,Int.mul_zero,Int.add_zero,Int.mul_assoc,Int.mul_left_comm,Int.add_assoc,← Int.mul_add]
 congr 2;omega
def zQe{a b:List Int}{owed:Int}{out:List Int}(h:DnI a b a.length owed out)(hl:b.length≤a.length)(hv:dv b≤dv a):Dg out∧dv out=dv a - dv b∧out.length=a.length:=by
 obtain⟨h1,h2,h4,h5,h6⟩:=h;rw[List.drop_eq_nil_of_le (Nat.le_refl _),List.drop_eq_nil_of_le hl] at h6;have h7:=zGX h4;rw[h1] at h7;have h8:=qM h4;simp only[dv,Int.sub_zero,Int.zero_sub] at h6;rcases(show owed=0∨owed=1 by omega) with rfl|rfl
 ·exact⟨h4,by simpa using h6,h1⟩
 rw[Int.mul_neg,Int.mul_one] at h6;omega
def zOQ(a:List Int)(k:Nat)(h:k≤a.length):dv a=dv (a.take k)+pw k * dv (a.drop k):=by
 conv=>lhs;rw[← List.take_append_drop k a]
 rw[jO,List.length_take_of_le h]
def zWP{a b:List Int}{k:Nat}{x y:Int}(ha:Dg a)(hb:Dg b)(hk:k<a.length)(hl:a.length=b.length)(h:a.drop (k+1)=b.drop (k+1))(hx:a[k]?=some x)(hy:b[k]?=some y)(hxy:y<x):dv b≤dv a:=by
 have h1:=zOQ a k (by omega);have h2:=zOQ b k (by omega);rw[List.drop_eq_getElem_cons hk] at h1;rw[List.drop_eq_getElem_cons (show k<b.length by omega)] at h2;rw[List.getElem?_eq_getElem hk] at hx;rw[List.getElem?_eq_getElem (show k<b.length by omega)] at hy;rw[Option.some.inj hx,dv,h] at h1;rw[Option.some.inj hy,dv] at h2;have h3:=qM (zGc ha k);have h4:=zGX (zGc hb k);rw[List.length_take_of_le (by omega)] at h4;have h5:pw k * (y+10000 * dv (b.drop (k+1))+1)≤pw k * (x+10000 * dv (b.drop (k+1))):=Int.mul_le_mul_of_nonneg_left (by omega) (by have:=zGg k;omega);rw[Int.mul_add,Int.mul_one] at h5;omega
def yHq{a b:List Int}{k:Nat}{x:Int}(hk:k<a.length)(hl:a.length=b.length)(h:a.drop (k+1)=b.drop (k+1))(hx:a[k]?=some x)(hy:b[k]?=some x):a.drop k=b.drop k:=by
 rw[List.drop_eq_getElem_cons hk,List.drop_eq_getElem_cons (show k<b.length by omega),h];rw[List.getElem?_eq_getElem hk] at hx;rw[List.getElem?_eq_getElem (show k<b.length by omega)] at hy;rw[Option.some.inj hx,Option.some.inj hy]
def zT3{a b:List Int}(ha:Dg a)(hz:Nz a)(hb:Dg b)(hl:b.length<a.length):dv b≤dv a:=by
 have h1:=zRa ha hz (by intro h;rw[h] at hl;cases hl);have h2:=zGX hb;have h3:=zWN (show b.length≤a.length - 1 by omega);omega
def ByR(a b:List Int)(r:Int):Prop:=(r ≥ 0→b.length≤a.length∧dv b≤dv a)∧(¬ r ≥ 0→a.length≤b.length∧dv a≤dv b)
def zSv:∀i:Nat,dv (List.replicate i 0)=0
 |0=>rfl
 |i+1=>by rw[List.replicate_succ,dv,zSv i];rfl
def zRZ(i:Nat):Dg (List.replicate i 0):=fun x hx=>by rw[List.eq_of_mem_replicate hx];omega
def zQj{x w:Int}(hx:0≤x∧x<10000)(hw:0≤w∧w<10000):0≤x * w∧x * w≤99980001 :=
 ⟨Int.mul_nonneg hx.1 hw.1,by have:=Int.mul_le_mul (show x≤9999 by omega) (show w≤9999 by omega) hw.1 (by decide);omega⟩
def MuI(a:List Int)(w:Int)(i k:Nat)(more:Int)(out:List Int):Prop :=
 out.length=i+k∧k≤a.length+1∧(k≤a.length∨more=0)∧Dg out∧(0≤more∧more<10000)∧dv out+pw (i+k) * (more+w * dv (a.drop k))=pw i * (w * dv a)
def yHP(a:List Int)(w:Int)(i:Nat):MuI a w i 0 0 (List.replicate i 0) :=
 ⟨by simp,by omega,.inr rfl,zRZ i,by omega,by rw[zSv];simp⟩
def yIA {a:List Int} {w:Int} {i k:Nat} {more:Int} {out:List Int} {x:Int} (h:MuI a w i k more out) (hw:0≤w∧w<10000) (hx:0≤x∧x<10000∧dv (a.drop k)=x+10000 * dv (a.drop (k+1)))
  (hn:k<a.length∨more > 0):MuI a w i (k+1) ((more+x * w).tdiv 10000) (out++[(more+x * w).tmod 10000]):=by
 obtain⟨h1,h2,h3,h4,h5,h6⟩:=h;obtain⟨x0,x1,x2⟩:=hx;have hm:=zQj ⟨x0,x1⟩ hw;have ht:0≤more+x * w:=by omega
 rw[zTQ ht,zKf ht];refine⟨by simp only[List.length_append,List.length_singleton,h1];omega,by omega,?_,zHK h4 (zER (by omega) zA5),by omega,?_⟩
 ·by_cases hl:k<a.length
  ·exact .inl hl
  refine .inr ?_;have e1:a.drop k=[]:=List.drop_eq_nil_of_le (by omega);have e3:a.drop (k+1)=[]:=List.drop_eq_nil_of_le (by omega);rw[e1,e3] at x2;simp only[dv] at x2;have:x=0:=by omega
  subst this;rw[Int.zero_mul];omega
 rw[← h6,x2,jO,h1,dv,dv,← Nat.add_assoc,zDE,Int.mul_zero,Int.add_zero,Int.mul_assoc,Int.mul_left_comm,Int.add_assoc,← Int.mul_add]
 congr 2
 rw[Int.mul_add w x,Int.mul_left_comm w 10000,Int.mul_comm w x];omega
def zX1 {a:List Int} {w:Int} {i k:Nat} {more:Int} {out:List Int} (h:MuI a w i k more out) (ha:decide ((k:Int)<(a.length:Int))=false) (hm:¬ more > 0) :
  Dg out∧dv out=pw i * (w * dv a)∧out.length≤i+a.length+1:=by
 obtain⟨h1,h2,h3,h4,h5,h6⟩:=h;rw[zF1 ha,show more=0 by omega,Int.mul_zero] at h6;exact⟨h4,by simpa using h6,by omega⟩
def zSP{b:List Int}{i:Nat}{w:Int}(h:b[i]?=some w)(hi:i<b.length):dv (b.take (i+1))=dv (b.take i)+pw i * w:=by
 rw[List.take_add_one,h,jO,List.length_take_of_le (by omega)];simp [dv]
def QuI(a:List Int)(B:Int)(k:Nat)(q:List Int)(r:Int):Prop :=
 k≤a.length∧q.length=a.length∧Dg q∧0≤r∧dv (a.drop k)=B * dv (q.drop k)+r
def yIU(a:List Int)(B:Int):QuI a B a.length (List.replicate a.length 0) 0 :=
 ⟨Nat.le_refl _,by simp,zRZ _,Int.le_refl _,by rw[List.drop_eq_nil_of_le (Nat.le_refl _),List.drop_eq_nil_of_le (by simp)];simp [dv]⟩
def yF5{q:List Int}(h:Dg q)(k:Nat){x:Int}(hx:0≤x∧x<10000):Dg (q.set k x):=by
 intro y hy;rcases List.mem_or_eq_of_mem_set hy with h1|h1
 ·exact h y h1
 rw[h1];exact hx
def yIv {a:List Int} {B:Int} {k:Nat} {q:List Int} {r:Int} {x low:Int} (h:QuI a B (k+1) q r) (hx:a[k]?=some x) (hl:0≤low∧low<10000) (hr:B * low≤x+10000 * r) :
  QuI a B k (q.set k low) (x+10000 * r - B * low):=by
 obtain⟨h1,h2,h3,h4,h5⟩:=h;refine⟨by omega,by simp [h2],yF5 h3 k hl,by omega,?_⟩;have hk:k<a.length:=by omega
 rw[List.getElem?_eq_getElem hk] at hx;rw[List.drop_eq_getElem_cons hk,Option.some.inj hx,dv,h5];rw[List.drop_eq_getElem_cons (show k<(q.set k low).length by simp;omega),dv,List.getElem_set_self,List.drop_set_of_lt (by omega)];rw[Int.mul_add B low,Int.mul_left_comm B 10000];omega
def zYo{a:List Int}{B:Int}{k:Nat}{q:List Int}{r:Int}(h:QuI a B k q r)(hB:0≤B)(ha:Dg a):r<pw (a.length - k):=by
 obtain⟨h1,h2,h3,h4,h5⟩:=h;have h6:=zGX (zPG ha k);rw[List.length_drop] at h6;have h7:=Int.mul_nonneg hB (qM (zPG h3 k));omega
def zZi{a:List Int}{B:Int}{q:List Int}{r:Int}(h:QuI a B 0 q r):Dg q∧B * dv q≤dv a:=by
 obtain⟨h1,h2,h3,h4,h5⟩:=h;rw[List.drop_zero,List.drop_zero] at h5;exact⟨h3,by omega⟩
def zYE{low high:Int}(h0:0≤low)(h:low<high)(_:high≤9999):low<(low+high+1).tdiv 2∧(low+high+1).tdiv 2≤high:=by
 rw[Int.tdiv_eq_ediv_of_nonneg (by omega)];omega
end Go.Ab
namespace Go.Ab
open Go.Proofs
attribute [local irreducible] W RW RR
def zLm(c:Int):∃x:Bool,Om CC 94 [.t (.int .u8 c)] []=some (.val (.t (.bool x)),[])∧(True):=by
 refine zH yDU rfl ?_
 (have F_:=c2 zE yHh;show W CC 0 9 (zA 94) _ ⟨[(0,_)],[]⟩ _)
 (repeat' first|refine gA ?_|refine gT ?_ ?_<;>intro hv<;>try cases hv;done|fail)
 all_goals refine aM ?_<;>exact⟨_,⟨rfl,rfl⟩,by trivial⟩
noncomputable def yAX(c:Int):Bool:=(zLm c).choose
def zMI(c:Int):Om CC 94 [.t (.int .u8 c)] []=some (.val (.t (.bool (yAX c))),[]):=(zLm c).choose_spec.1
def zKx(c:Int):∃x:Bool,Om CC 55 [.t (.int .u8 c)] []=some (.val (.t (.bool x)),[])∧(True):=by
 refine zH yGV rfl ?_
 (have F_:=c2 zE yJd;show W CC 0 9 (zA 55) _ ⟨[(0,_)],[]⟩ _)
 (repeat' first|refine gA ?_|refine gT ?_ ?_<;>intro hv<;>try cases hv;done|fail)
 all_goals refine aM ?_<;>exact⟨_,⟨rfl,rfl⟩,by trivial⟩
noncomputable def yB4(c:Int):Bool:=(zKx c).choose
def zBv(c:Int):Om CC 55 [.t (.int .u8 c)] []=some (.val (.t (.bool (yB4 c))),[]):=(zKx c).choose_spec.1
def xa3:=c5 zG zN zE zD (c5 zWL zXn zHl @zMI @zBv)
def zO1(s:List Nat)(at_:Nat)(ha:at_≤s.length)(hs:s.length<9223372036854775000):∃n:Nat,Om CC 54 [.t (.str s),.t (.int .i64 (at_:Int))] []=some (.val (.t (.int .i64 (n:Int))),[])∧(at_≤n∧n≤s.length):=by
 refine zH yAS rfl ?_;have hs2:Hid _:=⟨hs⟩
 clear hs;have ld:∀(i c:Nat),s[i]?=some c→index Tryz.prog 9 (.t (.str s)) (i:Int)=some (.t (.int .u8 (c:Int))):=fun i c h=>xL h
 by_cases h0:at_<s.length
 ·have hd0:decide ((at_:Int) ≥ (s.length:Int))=false:=by simp;omega
  have hx0:=ld at_ s[at_] (List.getElem?_eq_getElem h0);generalize s[at_]=c0 at hx0;have ld2:Hid _:=⟨ld⟩
  have ha2:Hid _:=⟨ha⟩
  clear ld ha h0
  (have F_:=xa3;show W CC 0 36 (zA 54) _ ⟨[(0,_),(1,_)],[]⟩ _)
  (repeat' first|refine gA ?_|refine gT ?_ ?_<;>intro hv<;>try cases hv;done|fail)
  ·(refine aM ?_)
   exact⟨at_,⟨rfl,rfl⟩,Nat.le_refl _,ha2.h⟩
  refine zW (α:=Nat) (fun i=>⟨[(0,.t (.str s)),(1,.t (.int .i64 i))],[]⟩) (fun i=>s.length - i) (fun i=>at_≤i∧i≤s.length) at_ (by kernel_rfl) ⟨Nat.le_refl _,ha2.h⟩ ?_;rintro i ⟨hi0,hi⟩
  by_cases hi':i<s.length
  ·have hd:decide ((i:Int)<(s.length:Int))=true:=by simpa using hi'
   have hx:=ld2.h i s[i] (List.getElem?_eq_getElem hi');have hw:=wI64 i (by have:=hs2.h;omega);generalize s[i]=c at hx
   (repeat' first|refine gA ?_|refine gT ?_ ?_<;>intro hv<;>try cases hv;done|fail)
   all_goals first
    |exact zB (i+1) (by omega) ⟨by omega,by omega⟩ (by kernel_rfl)
    |((refine aM ?_);exact⟨i,⟨rfl,rfl⟩,hi0,hi⟩)
  have hd:decide ((i:Int)<(s.length:Int))=false:=by simpa using hi'
  (repeat' first|refine gA ?_|refine gT ?_ ?_<;>intro hv<;>try cases hv;done|fail)
  all_goals refine aM ?_<;>exact⟨i,⟨rfl,rfl⟩,hi0,hi⟩
 have hd0:decide ((at_:Int) ≥ (s.length:Int))=true:=by simp;omega
 clear ld h0
 (have F_:=xa3;show W CC 0 36 (zA 54) _ ⟨[(0,_),(1,_)],[]⟩ _)
 (repeat' first|refine gA ?_|refine gT ?_ ?_<;>intro hv<;>try cases hv;done|fail)
 all_goals refine aM ?_<;>exact⟨at_,⟨rfl,rfl⟩,Nat.le_refl _,ha⟩
def zVf(s:List Nat)(at_:Nat)(ha:at_≤s.length)(hs:s.length<9223372036854775000):∃n:Nat,Om CC 56 [.t (.str s),.t (.int .i64 (at_:Int))] []=some (.val (.t (.int .i64 (n:Int))),[])∧(at_≤n∧n≤s.length):=by
 refine zH yCk rfl ?_;have hs2:Hid _:=⟨hs⟩
 have ld2:Hid _:=⟨fun(i c:Nat) (h:s[i]?=some c)=>(xL h:index Tryz.prog 9 (.t (.str s)) (i:Int)=some (.t (.int .u8 (c:Int))))⟩
 clear hs
 (have F_:=c5 zG zN zE zD (c3 yIC zHl @zBv);show W CC 0 52 (zA 56) _ ⟨[(0,_),(1,_)],[]⟩ _)
 (repeat' first|refine gA ?_|refine gT ?_ ?_<;>intro hv<;>try cases hv;done|fail)
 refine zW (α:=Nat) (fun i=>⟨[(0,.t (.str s)),(1,.t (.int .i64 i))],[]⟩) (fun i=>s.length - i) (fun i=>at_≤i∧i≤s.length) at_ (by kernel_rfl) ⟨Nat.le_refl _,ha⟩ ?_;rintro i ⟨hi0,hi⟩;have hw:=wI64 i (by have:=hs2.h;omega);have tail:Hid (∀k:Nat,at_≤k→k≤s.length→True):=⟨fun _ _ _=>trivial⟩
 by_cases hi':i<s.length
 ·have hd:decide ((i:Int)<(s.length:Int))=true:=by simpa using hi'
  have hx:=ld2.h i s[i] (List.getElem?_eq_getElem hi');generalize s[i]=c at hx
  by_cases hi2:i+1<s.length
  ·have hd2:decide (((i+1:Nat):Int) ≥ (s.length:Int))=false:=by simp;omega
   have hx2:=ld2.h (i+1) s[i+1] (List.getElem?_eq_getElem hi2);generalize s[i+1]=c2 at hx2
   (repeat' first|refine gA ?_|refine gT ?_ ?_<;>intro hv<;>try cases hv;done|fail)
   all_goals first
    |exact zB (i+1) (by omega) ⟨by omega,by omega⟩ (by kernel_rfl)
    |((refine aM ?_);exact⟨i,⟨rfl,rfl⟩,hi0,hi⟩)
    |skip
   refine zW (α:=Nat) (fun j=>⟨[(0,.t (.str s)),(1,.t (.int .i64 j))],[]⟩) (fun j=>s.length - j) (fun j=>at_≤j∧j≤s.length) (i+1) (by kernel_rfl) ⟨by omega,by omega⟩ ?_;rintro j ⟨hj0,hj⟩
   by_cases hj':j<s.length
   ·have hdj:decide ((j:Int)<(s.length:Int))=true:=by simpa using hj'
    have hxj:=ld2.h j s[j] (List.getElem?_eq_getElem hj');have hwj:=wI64 j (by have:=hs2.h;omega);generalize s[j]=cj at hxj
    (repeat' first|refine gA ?_|refine gT ?_ ?_<;>intro hv<;>try cases hv;done|fail)
    all_goals first
     |exact zB (j+1) (by omega) ⟨by omega,by omega⟩ (by kernel_rfl)
     |((refine aM ?_);exact⟨j,⟨rfl,rfl⟩,hj0,hj⟩)
   have hdj:decide ((j:Int)<(s.length:Int))=false:=by simpa using hj'
   (repeat' first|refine gA ?_|refine gT ?_ ?_<;>intro hv<;>try cases hv;done|fail)
   all_goals refine aM ?_<;>exact⟨j,⟨rfl,rfl⟩,hj0,hj⟩
  have hd2:decide (((i+1:Nat):Int) ≥ (s.length:Int))=true:=by simp;omega
  (repeat' first|refine gA ?_|refine gT ?_ ?_<;>intro hv<;>try cases hv;done|fail)
  all_goals first
   |exact zB (i+1) (by omega) ⟨by omega,by omega⟩ (by kernel_rfl)
   |((refine aM ?_);exact⟨i,⟨rfl,rfl⟩,hi0,hi⟩)
 have hd:decide ((i:Int)<(s.length:Int))=false:=by simpa using hi'
 have hd2:decide (((i+1:Nat):Int) ≥ (s.length:Int))=true:=by simp;omega
 (repeat' first|refine gA ?_|refine gT ?_ ?_<;>intro hv<;>try cases hv;done|fail)
 all_goals refine aM ?_<;>exact⟨i,⟨rfl,rfl⟩,hi0,hi⟩
def zV6(s:List Nat)(at_:Nat)(ha:at_<s.length)(hs:s.length<9223372036854775000):∃n:Int,Om CC 58 [.t (.str s),.t (.int .i64 (at_:Int))] []=some (.val (.t (.int .i64 n)),[])∧(n=-1∨((at_:Int)+2≤n∧n≤(s.length:Int))):=by
 refine zH yC9 rfl ?_;have hs2:Hid _:=⟨hs⟩
 have ld2:Hid _:=⟨fun(i c:Nat) (h:s[i]?=some c)=>(xL h:index Tryz.prog 9 (.t (.str s)) (i:Int)=some (.t (.int .u8 (c:Int))))⟩
 have hwa:=wI64 at_ (by omega);clear hs
 (have F_:=c3 zG zE (c2 zD yII);show W CC 0 52 (zA 58) _ ⟨[(0,_),(1,_)],[]⟩ _)
 (repeat' first|refine gA ?_|refine gT ?_ ?_<;>intro hv<;>try cases hv;done|fail)
 refine zW (α:=Nat) (fun i=>⟨[(0,.t (.str s)),(5,.t (.int .i64 i))],[]⟩) (fun i=>s.length - i) (fun i=>at_+1≤i) (at_+1) (by kernel_rfl) (Nat.le_refl _) ?_;intro i hi0
 by_cases hi':i<s.length
 ·have hw:=wI64 i (by have:=hs2.h;omega);have hw2:IntKind.i64.wrap (((i+1:Nat):Int)+1)=((i+1+1:Nat):Int):=by have:=hs2.h;rw[wrap64]<;>omega
  have hd:decide ((i:Int)<(s.length:Int))=true:=by simpa using hi'
  have hx:=ld2.h i s[i] (List.getElem?_eq_getElem hi');generalize s[i]=c at hx
  by_cases hi2:i+1<s.length
  ·have hd2:decide (((i+1:Nat):Int)<(s.length:Int))=true:=by simp;omega
   have hx2:=ld2.h (i+1) s[i+1] (List.getElem?_eq_getElem hi2);generalize s[i+1]=c2 at hx2
   (repeat' first|refine gA ?_|refine gT ?_ ?_<;>intro hv<;>try cases hv;done|fail)
   all_goals first
    |exact zB (i+1) (by omega) (by omega) (by exact aTd)
    |exact zB (i+1+1) (by omega) (by omega) (by exact aTd)
    |((refine aM ?_);exact⟨-1,⟨rfl,rfl⟩,.inl rfl⟩)
    |((refine aM ?_);exact⟨((i+1:Nat):Int),⟨rfl,rfl⟩,.inr ⟨by omega,by omega⟩⟩)
  have hd2:decide (((i+1:Nat):Int)<(s.length:Int))=false:=by simp;omega
  (repeat' first|refine gA ?_|refine gT ?_ ?_<;>intro hv<;>try cases hv;done|fail)
  all_goals first
   |exact zB (i+1) (by omega) (by omega) (by exact aTd)
   |exact zB (i+1+1) (by omega) (by omega) (by exact aTd)
   |((refine aM ?_);exact⟨-1,⟨rfl,rfl⟩,.inl rfl⟩)
   |((refine aM ?_);exact⟨((i+1:Nat):Int),⟨rfl,rfl⟩,.inr ⟨by omega,by omega⟩⟩)
 have hd:decide ((i:Int)<(s.length:Int))=false:=by simpa using hi'
 (repeat' first|refine gA ?_|refine gT ?_ ?_<;>intro hv<;>try cases hv;done|fail)
 all_goals refine aM ?_<;>exact⟨-1,⟨rfl,rfl⟩,.inl rfl⟩
def xa4:=c3 zG zE (c2 zD zWZ)
def zWA(s:List Nat)(at_:Nat)(ha:at_<s.length)(hs:s.length<9223372036854775000):∃n:Int,Om CC 59 [.t (.str s),.t (.int .i64 (at_:Int))] []=some (.val (.t (.int .i64 n)),[])∧(n=-1∨((at_:Int)+1≤n∧n≤(s.length:Int))):=by
 refine zH yEM rfl ?_;have hw1:=wI64 at_ (by omega);have hw2:IntKind.i64.wrap ((at_:Int)+2)=((at_+2:Nat):Int):=by rw[wrap64]<;>omega
 have hx:index Tryz.prog 9 (.t (.str s)) (at_:Int)=some (.t (.int .u8 (s[at_]:Int))):=xL (List.getElem?_eq_getElem ha);have ha2:Hid _:=⟨ha⟩
 generalize s[at_]=c at hx;clear hs ha
 by_cases h2:at_+1<s.length
 ·have hd:decide (((at_+1:Nat):Int)<(s.length:Int))=true:=by simp;omega
  have hsl:∀g,slice Tryz.prog g 9 (.t (.str s)) (some (at_:Int)) (some ((at_+2:Nat):Int)) none=some (.t (.str ((s.take (at_+2)).drop at_))):=fun g=>vH (by omega) (by omega)
  have h22:Hid _:=⟨h2⟩
  clear h2;generalize (s.take (at_+2)).drop at_=w at hsl
  (have F_:=xa4;show W CC 0 41 (zA 59) _ ⟨[(0,_),(1,_)],[]⟩ _)
  (repeat' first|refine gA ?_|refine gT ?_ ?_<;>intro hv<;>try cases hv;done|fail)
  all_goals refine aM ?_
  all_goals first
   |exact⟨-1,⟨rfl,rfl⟩,.inl rfl⟩
   |exact⟨((at_+1:Nat):Int),⟨rfl,rfl⟩,.inr ⟨by omega,by have:=ha2.h;omega⟩⟩
   |exact⟨((at_+2:Nat):Int),⟨rfl,rfl⟩,.inr ⟨by omega,by have:=h22.h;omega⟩⟩
 have hd:decide (((at_+1:Nat):Int)<(s.length:Int))=false:=by simp;omega
 clear h2
 (have F_:=xa4;show W CC 0 41 (zA 59) _ ⟨[(0,_),(1,_)],[]⟩ _)
 (repeat' first|refine gA ?_|refine gT ?_ ?_<;>intro hv<;>try cases hv;done|fail)
 all_goals refine aM ?_
 all_goals first
  |exact⟨-1,⟨rfl,rfl⟩,.inl rfl⟩
  |exact⟨((at_+1:Nat):Int),⟨rfl,rfl⟩,.inr ⟨by omega,by have:=ha2.h;omega⟩⟩
def zQ6{g:Look}{nl c:Bool}{l:List Int}{k:Nat}(h:k≤l.length):slice Tryz.prog g 69 (.t (.sl nl c (l.map intC))) none (some (k:Int)) none=some (.t (.sl nl (c&&((k:Int)==(l.length:Int))) ((l.take k).map intC))):=by
 unfold slice;have h1:uV 1 (l.map intC)=true:=by cases l<;>rfl
 simp only[zSb,zSS,Option.getD_none,Option.getD_some,List.length_map,h1,Int.toNat_natCast];rw[if_pos ⟨Int.le_refl 0,by omega,by omega,trivial⟩];simp
def zSr(neg:Bool)(d:List Int)(nl cl:Bool)(hd:Dg d)(hl:d.length<4294967295):∃x:RN,Om CC 189 [.t (.bool neg),.t (.sl nl cl (d.map intC))] []=some (.val (.t (.agg x.c)),[])∧(RNK d.length x∧dv x.d.l=dv d∧(x.neg=true→neg=true)∧(neg=true→x.neg=false→x.d.l=[])):=by
 refine zH zXM rfl ?_
 (have F_:=c5 zG zN zK vX yEn;show W CC 0 30 (zA 189) _ ⟨[(0,_),(1,_)],[]⟩ _)
 (repeat' first|refine gA ?_|refine gT ?_ ?_<;>intro hv<;>try cases hv;done|fail)
 refine zW (α:=Bool×Nat) (fun a=>⟨[(0,.t (.bool neg)),(1,.t (.sl nl a.1 ((d.take a.2).map intC))),(4,.box 0 0)],[.box [.t (.bool false),.t (.sl true true [])]]⟩) (fun a=>a.2) (fun a=>a.2≤d.length∧dv (d.take a.2)=dv d) (cl,d.length) (by rw[List.take_length];kernel_rfl) ⟨Nat.le_refl _,by rw[List.take_length]⟩ ?_;rintro⟨c,k⟩ ⟨hk,hvv⟩;dsimp only at hk hvv;have hdt:Hid _:=⟨zGc hd k⟩
 have hlen:(d.take k).length=k:=List.length_take_of_le hk;cases k with
 |zero =>
  have hd0:decide ((0:Int) > 0)=false:=rfl;have hv2:Hid _:=⟨hvv⟩
  clear hd hvv
  (repeat' first|refine gA ?_|refine gT ?_ ?_<;>intro hv<;>try cases hv;done|fail)
  all_goals refine aM ?_<;>exact⟨⟨_,⟨_,_,d.take 0⟩⟩,⟨rfl,rfl⟩,⟨zA5,zIj,fun h=>(by cases h),Nat.zero_le _⟩,hv2.h,fun h=>(by cases h),fun _ _=>rfl⟩
 |succ k =>
  have hnz:Hid (∀h:d[k]≠0,Nz (d.take (k+1))):=⟨zYx hk⟩
  have hta:Hid (∀h:d[k]=0,dv (d.take k)=dv d):=⟨fun h=>(yAw hk h).symm.trans hvv⟩
  have he:(d.take (k+1))[k]?=some d[k]:=by rw[List.getElem?_take_of_lt (Nat.lt_succ_self k)];exact List.getElem?_eq_getElem hk
  have htt:(d.take (k+1)).take k=d.take k:=by rw[List.take_take,Nat.min_eq_left (Nat.le_succ k)]
  have hvh:Hid _:=⟨hvv⟩
  generalize d[k]=y at he hnz hta;generalize hL:d.take (k+1)=l at he hlen htt hdt hnz hvh;have hsl:∀g nl c,slice Tryz.prog g 69 (.t (.sl nl c (l.map intC))) none (some (k:Int)) none=some (.t (.sl nl (c&&((k:Int)==(l.length:Int))) ((d.take k).map intC))):=fun g nl c=>by rw[zQ6 (by omega),htt]
  have hd0:decide (((k+1:Nat):Int) > 0)=true:=decide_eq_true (by omega);have hw:IntKind.i64.wrap (((k+1:Nat):Int) - 1)=(k:Int):=by rw[wrap64]<;>omega
  have hk2:Hid _:=⟨hk⟩
  clear hd hvv hL htt hk hl
  (repeat' first|refine gA ?_|refine gT ?_ ?_<;>intro hv<;>try cases hv;done|fail)
  ·exact zB (_,k) (Nat.lt_succ_self k) ⟨by have:=hk2.h;dsimp only;omega,hta.h (by simp_all)⟩ (by exact aTd)
  all_goals refine aM ?_<;>exact⟨⟨_,⟨_,_,l⟩⟩,⟨rfl,rfl⟩,⟨hdt.h,hnz.h (by simp_all),fun _ h=>(by rw[show l=[] from h] at hlen;cases hlen),by have:=hk2.h;dsimp only;omega⟩,hvh.h,fun h=>(by simp_all),fun h h'=>(by simp_all)⟩
def yB6(n:Int):(if n.tmod 10000<0 then -(n.tmod 10000) else n.tmod 10000)=((n.natAbs % 10000:Nat):Int):=by
 have h:=Int.natAbs_tmod n 10000;rw[show (10000:Int).natAbs=10000 from rfl] at h;rw[← h];split<;>omega
def zTG(n:Int):(n.tdiv 10000).natAbs=n.natAbs / 10000:=by
 rw[Int.natAbs_tdiv];rfl
def yA7{n:Int}(h:R64 n):R64 (n.tdiv 10000):=by
 have h1:=zTG n;have:=h.1;have:=h.2;have h2:n.natAbs / 10000≤922337203685477:=by omega
 constructor<;>omega
def zDq(n:Int)(hn:R64 n):∃x:RN,Om CC 153 [.t (.int .i64 n)] []=some (.val (.t (.agg x.c)),[])∧(RNK 5 x∧dv x.d.l=(n.natAbs:Int)∧(x.neg=decide (n<0))):=by
 refine zH zZH rfl ?_
 (have F_:=c5 zF zG zN zK (c3 vX yEz (c2 @zGj @zCH));show W CC 0 25 (zA 153) _ ⟨[(0,_)],[]⟩ _)
 (repeat' first|refine gA ?_|refine gT ?_ ?_<;>intro hv<;>try cases hv;done|fail)
 refine zW (α:=Int×Bool×List Int) (fun a=>⟨[(0,.t (.int .i64 a.1)),(2,.box 0 0),(3,.t (.bool (decide (n<0)))),(4,match a.2.1 with|true=>.hs 1 0|false=>.t (.sl true true []))],
  match a.2.1 with|true=>[.box [.t (.bool false),.t (.sl true true [])],.arr 1 0 false (a.2.2.map intC)]|false=>[.box [.t (.bool false),.t (.sl true true [])]]⟩) (fun a=>a.1.natAbs)
  (fun a=>R64 a.1∧Dg a.2.2∧(a.1=0→Nz a.2.2)∧dv a.2.2+pw a.2.2.length * (a.1.natAbs:Int)=(n.natAbs:Int)∧(a.2.1=false→a.2.2=[])∧a.2.2.length≤5) (n,false,[]) (by kernel_rfl) ⟨hn,zA5,fun _=>zIj,by simp [dv,zND],fun _=>rfl,Nat.zero_le _⟩ ?_
 rintro⟨m,st,out⟩ ⟨hm,hdg,hnz,hval,h0,hln⟩;dsimp only at hm hdg hnz hval h0 hln;have hle:lens 1 (out.map intC)=true:=vF intC 1 (fun a=>rfl) out
 by_cases hz:m=0
 ·subst hz;have hN:Hid _:=⟨hnz rfl⟩
  have hV:Hid (dv out=(n.natAbs:Int)):=⟨by simpa using hval⟩
  have hD:Hid _:=⟨hdg⟩
  have hS:Hid (decide (n<0)=true→out≠[]):=⟨fun h h'=>by rw[h'] at hval;have:=of_decide_eq_true h;simp [dv] at hval;omega⟩
  have hL:Hid _:=⟨hln⟩
  clear hval hdg hnz hm hln;cases st with
  |true =>
   clear h0
   (repeat' first|refine gA ?_|refine gT ?_ ?_<;>intro hv<;>try cases hv;done|fail)
   all_goals refine aM ?_<;>exact⟨⟨_,⟨_,_,out⟩⟩,⟨rfl,rfl⟩,⟨hD.h,hN.h,hS.h,hL.h⟩,hV.h,rfl⟩
  |false =>
   have h0:=h0 rfl;subst h0
   (repeat' first|refine gA ?_|refine gT ?_ ?_<;>intro hv<;>try cases hv;done|fail)
   all_goals refine aM ?_<;>exact⟨⟨_,⟨_,_,[]⟩⟩,⟨rfl,rfl⟩,⟨hD.h,hN.h,hS.h,hL.h⟩,hV.h,rfl⟩
 have hb:(m != 0)=true:=by simpa using hz
 have hx:=yB6 m;have hR:=yA7 hm;have hq:=zTG m;have hw2:IntKind.i64.wrap (m.tdiv 10000)=m.tdiv 10000:=wrap64 hR.1 hR.2;have hxr:0≤m.tmod 10000∨m.tmod 10000<0:=by omega
 have hn10:(10000:Int)≠0:=by decide
 have hwn:m.tmod 10000<0→IntKind.i64.wrap (0 - m.tmod 10000)=-(m.tmod 10000):=fun h=>by
  rw[Int.zero_sub];rw[if_pos h] at hx;rw[hx,wrap64]<;>omega
 have hstep:Hid (∀x:Int,x=((m.natAbs % 10000:Nat):Int)→(m.tdiv 10000).natAbs<m.natAbs∧R64 (m.tdiv 10000)∧Dg (out++[x])∧(m.tdiv 10000=0→Nz (out++[x]))∧dv (out++[x])+pw (out++[x]).length * ((m.tdiv 10000).natAbs:Int)=(n.natAbs:Int)∧(out++[x]).length≤5):=⟨fun x hx=>by
  have hpos:0<m.natAbs:=by omega
  refine⟨by rw[hq];omega,hR,zHK hdg (zER (by omega) zA5),fun h=>?_,?_,?_⟩
  ·intro y hy;rw[List.getLast?_concat] at hy;cases hy;have h:m.natAbs / 10000=0:=by rw[← hq,h];rfl
   omega
  ·rw[jO,List.length_append,List.length_singleton,zDE,hq,dv,dv,hx,← hval,Int.mul_zero,Int.add_zero,Int.mul_assoc,Int.mul_left_comm,Int.add_assoc,← Int.mul_add]
   congr 2;omega
  rw[List.length_append,List.length_singleton];refine Nat.le_of_not_lt fun hlt=>?_
  have h5:out.length=5:=by omega
  have h1:=qM hdg;rw[h5,show pw 5=100000000000000000000 from rfl] at hval;have:=hm.1;have:=hm.2;have:=hn.1;have:=hn.2;omega⟩
 have hsm:decide (out.length+1<4294967296)=true:=decide_eq_true (by omega);clear hval hdg hnz hm hn hq hR hln;have hA:IntKind.i64.wrap 10000=10000:=by decide
 rcases hxr with hx0|hx0
 ·have hlt:decide (m.tmod 10000<0)=false:=decide_eq_false (by omega);rw[if_neg (by omega)] at hx;have hst:Hid _:=⟨hstep.h _ hx⟩
  have h02:Hid _:=⟨h0⟩
  clear hstep hx hx0 hwn h0 hA;cases st with
  |true =>
   (repeat' first|refine gA ?_|refine gT ?_ ?_<;>intro hv<;>try cases hv;done|fail)
   all_goals exact zB (_,true,_) hst.h.1 ⟨hst.h.2.1,hst.h.2.2.1,hst.h.2.2.2.1,hst.h.2.2.2.2.1,fun h=>(by cases h),hst.h.2.2.2.2.2⟩ (by(have X_:=@mapA;exact aTdX))
  |false =>
   have h0:=h02.h rfl;subst h0
   (repeat' first|refine gA ?_|refine gT ?_ ?_<;>intro hv<;>try cases hv;done|fail)
   all_goals exact zB (_,true,_) hst.h.1 ⟨hst.h.2.1,hst.h.2.2.1,hst.h.2.2.2.1,hst.h.2.2.2.2.1,fun h=>(by cases h),hst.h.2.2.2.2.2⟩ (by(have X_:=@mapA;exact aTdX))
 have hlt:decide (m.tmod 10000<0)=true:=decide_eq_true hx0;rw[if_pos hx0] at hx;have hst:Hid _:=⟨hstep.h _ hx⟩
 have hwn2:=hwn hx0;have h02:Hid _:=⟨h0⟩
 clear hstep hx hx0 hwn h0 hA;cases st with
 |true =>
  (repeat' first|refine gA ?_|refine gT ?_ ?_<;>intro hv<;>try cases hv;done|fail)
  all_goals exact zB (_,true,_) hst.h.1 ⟨hst.h.2.1,hst.h.2.2.1,hst.h.2.2.2.1,hst.h.2.2.2.2.1,fun h=>(by cases h),hst.h.2.2.2.2.2⟩ (by(have X_:=@mapA;exact aTdX))
 |false =>
  have h0:=h02.h rfl;subst h0
  (repeat' first|refine gA ?_|refine gT ?_ ?_<;>intro hv<;>try cases hv;done|fail)
  all_goals exact zB (_,true,_) hst.h.1 ⟨hst.h.2.1,hst.h.2.2.1,hst.h.2.2.2.1,hst.h.2.2.2.2.1,fun h=>(by cases h),hst.h.2.2.2.2.2⟩ (by(have X_:=@mapA;exact aTdX))
def zPS(a b:List Int)(anl acl bnl bcl:Bool)(ha:Dg a)(hb:Dg b)(hal:a.length<4294967000)(hbl:b.length<4294967000):∃x:Sl Int,Om CC 190 [.t (.sl anl acl (a.map intC)),.t (.sl bnl bcl (b.map intC))] []=some (.val (.t (x.t intC)),[])∧(Dg x.l∧dv x.l=dv a+dv b∧x.l.length≤max a.length b.length+1):=by
 refine zH zZW rfl ?_
 (have F_:=c5 zG zK yEL @zGj @zCH;show W CC 0 52 (zA 190) _ ⟨[(0,_),(1,_)],[]⟩ _)
 (repeat' first|refine gA ?_|refine gT ?_ ?_<;>intro hv<;>try cases hv;done|fail)
 refine zW (α:=Nat×Int×Bool×List Int) (fun s=>⟨[(0,.t (.sl anl acl (a.map intC))),(1,.t (.sl bnl bcl (b.map intC))),(5,match s.2.2.1 with|true=>.hs 0 0|false=>.t (.sl true true [])),(6,.t (.int .i64 s.2.1)),(7,.t (.int .i64 s.1))],
  match s.2.2.1 with|true=>[.arr 1 0 false (s.2.2.2.map intC)]|false=>[]⟩) (fun s=>max a.length b.length+1 - s.1)
  (fun s=>UpI a b s.1 s.2.1 s.2.2.2∧(s.2.2.1=false→s.2.2.2=[])) (0,0,false,[]) (by kernel_rfl) ⟨yIf a b,fun _=>rfl⟩ ?_
 rintro⟨i,more,st,out⟩ ⟨hI,h0⟩;dsimp only at hI h0;have hle:lens 1 (out.map intC)=true:=vF intC 1 (fun a=>rfl) out;obtain⟨x,hx,hxd⟩:=zGt a i ha;obtain⟨y,hy,hyd⟩:=zGt b i hb;have hS:Hid (∀hn:i<a.length∨i<b.length∨more > 0,UpI a b (i+1) ((more+x+y).tdiv 10000) (out++[(more+x+y).tmod 10000])):=⟨yJc hI hx hy⟩
 have hE:Hid (∀ha:decide ((i:Int)<(a.length:Int))=false,∀hb:decide ((i:Int)<(b.length:Int))=false,∀hm:¬ more > 0,Dg out∧dv out=dv a+dv b∧out.length≤max a.length b.length+1):=⟨zXA hI⟩
 have hm1:=hI.2.2.2.2.1;have hol:=hI.1;have hil:=hI.2.1;have w1:IntKind.i64.wrap (more+x)=more+x:=by rw[wrap64]<;>omega
 have w2:IntKind.i64.wrap (more+x+y)=more+x+y:=by rw[wrap64]<;>omega
 have w3:IntKind.i64.wrap ((more+x+y).tdiv 10000)=(more+x+y).tdiv 10000:=by rw[zKf (by omega),wrap64]<;>omega
 have wi:=wI64 i (by omega);have hn10:(10000:Int)≠0:=by decide
 have hsm:decide (out.length+1<4294967296)=true:=decide_eq_true (by omega);have hX:Hid (x=0→y=0→more > 0→i<max a.length b.length+1):=⟨fun _ _ h=>by have:=hI.2.2.1;omega⟩
 have hmore:decide (more > 0)=true∨decide (more > 0)=false:=by cases decide (more > 0)<;>simp
 have hA:Hid (more > 0→i<max a.length b.length+1):=⟨fun h=>by have:=hI.2.2.1;omega⟩
 clear hI hx hy ha hb hal hbl hm1 hol hil hX;have go:Hid ((i<a.length∨i<b.length∨more > 0)→max a.length b.length+1 - (i+1)<max a.length b.length+1 - i):=⟨fun h=>by
  rcases h with h|h|h
  ·omega
  ·omega
  have:=hA.h h;omega⟩
 rcases hxd with ⟨d1,e1⟩|⟨d1,rfl⟩<;>rcases hyd with ⟨d2,e2⟩|⟨d2,rfl⟩
 ·have hn:i<a.length∨i<b.length∨more > 0:=.inl (by have:=of_decide_eq_true d1;omega);have hq:Hid _:=⟨hS.h hn⟩
  have hg:Hid _:=⟨go.h hn⟩
  clear hS hE hmore hA go hn;cases st with
  |true =>
   clear h0
   (repeat' first|refine gA ?_|refine gT ?_ ?_<;>intro hv<;>try cases hv;done|fail)
   all_goals exact zB (i+1,_,true,_) hg.h ⟨hq.h,fun h=>(by cases h)⟩ (by(have X_:=@mapA;exact aTdX))
  |false =>
   have h0:=h0 rfl;subst h0
   (repeat' first|refine gA ?_|refine gT ?_ ?_<;>intro hv<;>try cases hv;done|fail)
   all_goals exact zB (i+1,_,true,_) hg.h ⟨hq.h,fun h=>(by cases h)⟩ (by(have X_:=@mapA;exact aTdX))
 ·have hn:i<a.length∨i<b.length∨more > 0:=.inl (by have:=of_decide_eq_true d1;omega);have hq:Hid _:=⟨hS.h hn⟩
  have hg:Hid _:=⟨go.h hn⟩
  clear hS hE hmore hA go hn;simp only[Int.add_zero] at w2 w3 hq;cases st with
  |true =>
   clear h0
   (repeat' first|refine gA ?_|refine gT ?_ ?_<;>intro hv<;>try cases hv;done|fail)
   all_goals exact zB (i+1,_,true,_) hg.h ⟨hq.h,fun h=>(by cases h)⟩ (by(have X_:=@mapA;exact aTdX))
  |false =>
   have h0:=h0 rfl;subst h0
   (repeat' first|refine gA ?_|refine gT ?_ ?_<;>intro hv<;>try cases hv;done|fail)
   all_goals exact zB (i+1,_,true,_) hg.h ⟨hq.h,fun h=>(by cases h)⟩ (by(have X_:=@mapA;exact aTdX))
 ·have hn:i<a.length∨i<b.length∨more > 0:=.inr (.inl (by have:=of_decide_eq_true d2;omega));have hq:Hid _:=⟨hS.h hn⟩
  have hg:Hid _:=⟨go.h hn⟩
  clear hS hE hmore hA go hn;simp only[Int.add_zero] at w1 w2 w3 hq;cases st with
  |true =>
   clear h0
   (repeat' first|refine gA ?_|refine gT ?_ ?_<;>intro hv<;>try cases hv;done|fail)
   all_goals exact zB (i+1,_,true,_) hg.h ⟨hq.h,fun h=>(by cases h)⟩ (by(have X_:=@mapA;exact aTdX))
  |false =>
   have h0:=h0 rfl;subst h0
   (repeat' first|refine gA ?_|refine gT ?_ ?_<;>intro hv<;>try cases hv;done|fail)
   all_goals exact zB (i+1,_,true,_) hg.h ⟨hq.h,fun h=>(by cases h)⟩ (by(have X_:=@mapA;exact aTdX))
 simp only[Int.add_zero] at w1 w2 w3 hS;clear hA;rcases hmore with dm|dm
 ·have hn:i<a.length∨i<b.length∨more > 0:=.inr (.inr (of_decide_eq_true dm));have hq:Hid _:=⟨hS.h hn⟩
  have hg:Hid _:=⟨go.h hn⟩
  clear hS hE go hn;cases st with
  |true =>
   clear h0
   (repeat' first|refine gA ?_|refine gT ?_ ?_<;>intro hv<;>try cases hv;done|fail)
   all_goals exact zB (i+1,_,true,_) hg.h ⟨hq.h,fun h=>(by cases h)⟩ (by(have X_:=@mapA;exact aTdX))
  |false =>
   have h0:=h0 rfl;subst h0
   (repeat' first|refine gA ?_|refine gT ?_ ?_<;>intro hv<;>try cases hv;done|fail)
   all_goals exact zB (i+1,_,true,_) hg.h ⟨hq.h,fun h=>(by cases h)⟩ (by(have X_:=@mapA;exact aTdX))
 have hq:Hid _:=⟨hE.h d1 d2 (of_decide_eq_false dm)⟩
 clear hS hE go;cases st with
 |true =>
  clear h0
  (repeat' first|refine gA ?_|refine gT ?_ ?_<;>intro hv<;>try cases hv;done|fail)
  all_goals refine aM ?_<;>exact⟨⟨_,_,out⟩,⟨rfl,rfl⟩,hq.h⟩
 |false =>
  have h0:=h0 rfl;subst h0
  (repeat' first|refine gA ?_|refine gT ?_ ?_<;>intro hv<;>try cases hv;done|fail)
  all_goals refine aM ?_<;>exact⟨⟨_,_,[]⟩,⟨rfl,rfl⟩,hq.h⟩
def zMo(a b:List Int)(anl acl bnl bcl:Bool)(ha:Dg a)(hb:Dg b)(hal:a.length<4294967000)(hbl:b.length<4294967000):∃x:Sl Int,Om CC 192 [.t (.sl anl acl (a.map intC)),.t (.sl bnl bcl (b.map intC))] []=some (.val (.t (x.t intC)),[])∧(∃owed,DnI a b a.length owed x.l):=by
 refine zH zZg rfl ?_
 (have F_:=c3 zG zK yEU;show W CC 0 40 (zA 192) _ ⟨[(0,_),(1,_)],[]⟩ _)
 (repeat' first|refine gA ?_|refine gT ?_ ?_<;>intro hv<;>try cases hv;done|fail)
 refine zW (α:=Nat×Int×Bool×List Int) (fun s=>⟨[(0,.t (.sl anl acl (a.map intC))),(1,.t (.sl bnl bcl (b.map intC))),(5,match s.2.2.1 with|true=>.hs 0 0|false=>.t (.sl true true [])),(6,.t (.int .i64 s.2.1)),(7,.t (.int .i64 s.1))],
  match s.2.2.1 with|true=>[.arr 1 0 false (s.2.2.2.map intC)]|false=>[]⟩) (fun s=>a.length - s.1)
  (fun s=>DnI a b s.1 s.2.1 s.2.2.2∧(s.2.2.1=false→s.2.2.2=[])) (0,0,false,[]) (by kernel_rfl) ⟨yI4 a b,fun _=>rfl⟩ ?_
 rintro⟨i,owed,st,out⟩ ⟨hI,h0⟩;dsimp only at hI h0;have hle:lens 1 (out.map intC)=true:=vF intC 1 (fun a=>rfl) out;obtain⟨x,hx,hxd⟩:=zGt a i ha;obtain⟨y,hy,hyd⟩:=zGt b i hb;have hS:Hid (∀hn:i<a.length,_):=⟨yJf hI hx hy⟩
 have hE:Hid (∀d:decide ((i:Int)<(a.length:Int))=false,∃owed,DnI a b a.length owed out):=⟨fun d=>⟨owed,by
  have:i=a.length:=by have:=hI.2.1;have:=of_decide_eq_false d;omega
  rw[← this];exact hI⟩⟩
 have hm1:=hI.2.2.2.1;have hol:=hI.1;have hil:=hI.2.1;have w1:IntKind.i64.wrap (x - owed)=x - owed:=by rw[wrap64]<;>omega
 have w2:IntKind.i64.wrap (x - owed - y)=x - owed - y:=by rw[wrap64]<;>omega
 have w3:IntKind.i64.wrap (x - owed - y+10000)=x - owed - y+10000:=by rw[wrap64]<;>omega
 have wi:=wI64 i (by omega);have hsm:decide (out.length+1<4294967296)=true:=decide_eq_true (by omega);have hneg:decide (x - owed - y<0)=true∨decide (x - owed - y<0)=false:=by cases decide (x - owed - y<0)<;>simp
 clear hI hx hy ha hb hal hbl hm1 hol hil;rcases hxd with ⟨d1,e1⟩|⟨d1,rfl⟩
 ·have hn:Hid (i<a.length):=⟨by have:=of_decide_eq_true d1;omega⟩
  have hg:Hid (a.length - (i+1)<a.length - i):=⟨by have:=hn.h;omega⟩
  rcases hyd with ⟨d2,e2⟩|⟨d2,rfl⟩
  ·rcases hneg with dm|dm
   ·have hq:Hid _:=⟨(hS.h hn.h).1 (of_decide_eq_true dm)⟩
    clear hS hE hn;cases st with
    |true =>
     clear h0
     (repeat' first|refine gA ?_|refine gT ?_ ?_<;>intro hv<;>try cases hv;done|fail)
     all_goals exact zB (i+1,_,true,_) hg.h ⟨hq.h,fun h=>(by cases h)⟩ (by(have X_:=@mapA;exact aTdX))
    |false =>
     have h0:=h0 rfl;subst h0
     (repeat' first|refine gA ?_|refine gT ?_ ?_<;>intro hv<;>try cases hv;done|fail)
     all_goals exact zB (i+1,_,true,_) hg.h ⟨hq.h,fun h=>(by cases h)⟩ (by(have X_:=@mapA;exact aTdX))
   have hq:Hid _:=⟨(hS.h hn.h).2 (of_decide_eq_false dm)⟩
   clear hS hE hn;cases st with
   |true =>
    clear h0
    (repeat' first|refine gA ?_|refine gT ?_ ?_<;>intro hv<;>try cases hv;done|fail)
    all_goals exact zB (i+1,_,true,_) hg.h ⟨hq.h,fun h=>(by cases h)⟩ (by(have X_:=@mapA;exact aTdX))
   |false =>
    have h0:=h0 rfl;subst h0
    (repeat' first|refine gA ?_|refine gT ?_ ?_<;>intro hv<;>try cases hv;done|fail)
    all_goals exact zB (i+1,_,true,_) hg.h ⟨hq.h,fun h=>(by cases h)⟩ (by(have X_:=@mapA;exact aTdX))
  simp only[Int.sub_zero] at w2 w3 hS hneg;rcases hneg with dm|dm
  ·have hq:Hid _:=⟨(hS.h hn.h).1 (of_decide_eq_true dm)⟩
   clear hS hE hn;cases st with
   |true =>
    clear h0
    (repeat' first|refine gA ?_|refine gT ?_ ?_<;>intro hv<;>try cases hv;done|fail)
    all_goals exact zB (i+1,_,true,_) hg.h ⟨hq.h,fun h=>(by cases h)⟩ (by(have X_:=@mapA;exact aTdX))
   |false =>
    have h0:=h0 rfl;subst h0
    (repeat' first|refine gA ?_|refine gT ?_ ?_<;>intro hv<;>try cases hv;done|fail)
    all_goals exact zB (i+1,_,true,_) hg.h ⟨hq.h,fun h=>(by cases h)⟩ (by(have X_:=@mapA;exact aTdX))
  have hq:Hid _:=⟨(hS.h hn.h).2 (of_decide_eq_false dm)⟩
  clear hS hE hn;cases st with
  |true =>
   clear h0
   (repeat' first|refine gA ?_|refine gT ?_ ?_<;>intro hv<;>try cases hv;done|fail)
   all_goals exact zB (i+1,_,true,_) hg.h ⟨hq.h,fun h=>(by cases h)⟩ (by(have X_:=@mapA;exact aTdX))
  |false =>
   have h0:=h0 rfl;subst h0
   (repeat' first|refine gA ?_|refine gT ?_ ?_<;>intro hv<;>try cases hv;done|fail)
   all_goals exact zB (i+1,_,true,_) hg.h ⟨hq.h,fun h=>(by cases h)⟩ (by(have X_:=@mapA;exact aTdX))
 have hq:Hid _:=⟨hE.h d1⟩
 clear hS hE hyd hneg;cases st with
 |true =>
  clear h0
  (repeat' first|refine gA ?_|refine gT ?_ ?_<;>intro hv<;>try cases hv;done|fail)
  all_goals refine aM ?_<;>exact⟨⟨_,_,out⟩,⟨rfl,rfl⟩,hq.h⟩
 |false =>
  have h0:=h0 rfl;subst h0
  (repeat' first|refine gA ?_|refine gT ?_ ?_<;>intro hv<;>try cases hv;done|fail)
  all_goals refine aM ?_<;>exact⟨⟨_,_,[]⟩,⟨rfl,rfl⟩,hq.h⟩
def zZp(a b:List Int)(anl acl bnl bcl:Bool)(ha:Dg a)(hb:Dg b)(hza:Nz a)(hzb:Nz b)(hal:a.length<4294967000)(hbl:b.length<4294967000):∃x:Int,Om CC 191 [.t (.sl anl acl (a.map intC)),.t (.sl bnl bcl (b.map intC))] []=some (.val (.t (.int .i64 x)),[])∧(ByR a b x):=by
 refine zH zXT rfl ?_;have wl:IntKind.i64.wrap ((a.length:Int) - (b.length:Int))=(a.length:Int) - (b.length:Int):=by rw[wrap64]<;>omega
 by_cases hl:a.length=b.length
 ·have hl0:((a.length:Int) != (b.length:Int))=false:=by simp [hl]
  have hl2:Hid _:=⟨hl⟩
  clear hl
  (have F_:=c3 zG zK zTm;show W CC 0 41 (zA 191) _ ⟨[(0,_),(1,_)],[]⟩ _)
  (repeat' first|refine gA ?_|refine gT ?_ ?_<;>intro hv<;>try cases hv;done|fail)
  refine zW (α:=Nat) (fun k=>⟨[(0,.t (.sl anl acl (a.map intC))),(1,.t (.sl bnl bcl (b.map intC))),(5,.t (.int .i64 ((k:Int) - 1)))],[]⟩) (fun k=>k)
   (fun k=>k≤a.length∧a.drop k=b.drop k) a.length (by rw[wrap64 (by omega) (by omega)]<;>kernel_rfl) ⟨Nat.le_refl _,by rw[List.drop_eq_nil_of_le (Nat.le_refl _),List.drop_eq_nil_of_le (by have:=hl2.h;omega)]⟩ ?_
  rintro k ⟨hk,hdd⟩
  try dsimp only at hk hdd
  cases k with
  |zero =>
   have hr:Hid (ByR a b 0):=⟨by
    have:a=b:=hdd;subst this;exact⟨fun _=>⟨Nat.le_refl _,Int.le_refl _⟩,fun h=>absurd (Int.le_refl 0) h⟩⟩
   have hm:((0:Nat):Int) - 1=-1:=rfl;have hd:decide ((-1:Int) ≥ 0)=false:=rfl;clear hdd ha hb;simp only[hm]
   (repeat' first|refine gA ?_|refine gT ?_ ?_<;>intro hv<;>try cases hv;done|fail)
   all_goals refine aM ?_<;>exact⟨_,⟨rfl,rfl⟩,hr.h⟩
  |succ k =>
   have hl:=hl2.h;have hm:((k+1:Nat):Int) - 1=(k:Int):=by omega
   have hd:decide ((k:Int) ≥ 0)=true:=decide_eq_true (by omega);have e1:a[k]?=some a[k]:=List.getElem?_eq_getElem hk;have e2:b[k]?=some b[k]:=List.getElem?_eq_getElem (by omega);have r1:=ha a[k] (List.getElem_mem hk);have r2:=hb b[k] (List.getElem_mem (by omega));generalize a[k]=x at e1 r1;generalize b[k]=y at e2 r2;have w1:IntKind.i64.wrap (x - y)=x - y:=by rw[wrap64]<;>omega
   have w2:IntKind.i64.wrap ((k:Int) - 1)=(k:Int) - 1:=by rw[wrap64]<;>omega
   have hlt:Hid (x≠y→ByR a b (x - y)):=⟨fun hne=>⟨fun h=>⟨by omega,zWP ha hb hk hl hdd e1 e2 (by omega)⟩,fun h=>⟨by omega,zWP hb ha (by omega) hl.symm hdd.symm e2 e1 (by omega)⟩⟩⟩
   have heq:Hid (x=y→a.drop k=b.drop k):=⟨fun h=>by subst h;exact yHq hk hl hdd e1 e2⟩
   have hk2:Hid _:=⟨hk⟩
   clear ha hb hdd r1 r2 hl hk;simp only[hm]
   by_cases hxy:x=y
   ·have hb:(x != y)=false:=by simp [hxy]
    have hq:Hid _:=⟨heq.h hxy⟩
    clear hxy heq hlt
    (repeat' first|refine gA ?_|refine gT ?_ ?_<;>intro hv<;>try cases hv;done|fail)
    all_goals exact zB k (Nat.lt_succ_self k) ⟨by have:=hk2.h;omega,hq.h⟩ (by exact aTd)
   have hb:(x != y)=true:=by simpa using hxy
   have hq:Hid _:=⟨hlt.h hxy⟩
   clear hxy heq hlt
   (repeat' first|refine gA ?_|refine gT ?_ ?_<;>intro hv<;>try cases hv;done|fail)
   all_goals refine aM ?_<;>exact⟨_,⟨rfl,rfl⟩,hq.h⟩
 have hl0:((a.length:Int) != (b.length:Int))=true:=by simp;omega
 have hr:Hid (ByR a b ((a.length:Int) - (b.length:Int))):=⟨by
  constructor
  ·intro h;exact⟨by omega,zT3 ha hza hb (by omega)⟩
  intro h;exact⟨by omega,zT3 hb hzb ha (by omega)⟩⟩
 clear hl
 (have F_:=c3 zG zK zTm;show W CC 0 41 (zA 191) _ ⟨[(0,_),(1,_)],[]⟩ _)
 (repeat' first|refine gA ?_|refine gT ?_ ?_<;>intro hv<;>try cases hv;done|fail)
 all_goals refine aM ?_<;>exact⟨_,⟨rfl,rfl⟩,hr.h⟩
def zBX(neg:Bool)(d:Sl Int)(hd:Dg d.l)(hl:d.l.length<4294967295):∃x:RN,Om CC 189 [.t (.bool neg),.t (d.t intC)] []=some (.val (.t (.agg x.c)),[])∧(RNK d.l.length x∧dv x.d.l=dv d.l∧(neg=false→x.neg=false)∧x.v=if neg then - dv d.l else dv d.l):=by
 obtain⟨x,h,hk,hv,h1,h2⟩:=zSr neg d.l d.nl d.cl hd hl;refine⟨x,h,hk,hv,fun hn=>?_,?_⟩
 ·cases hx:x.neg with
  |false=>rfl
  |true=>rw[hn] at h1;exact absurd (h1 hx) (by decide)
 unfold RN.v;cases hx:x.neg with
 |true=>rw[h1 hx,hv]
 |false =>
  cases hn:neg with
  |false=>rw[hv]
  |true=>rw[h2 hn hx] at hv;rw[← hv,h2 hn hx];rfl
theorem RNK.mono{k k':Nat}{x:RN}(h:RNK k x)(hk:k≤k'):RNK k' x:=⟨h.dg,h.nz,h.sg,Nat.le_trans h.ln hk⟩
def yBI{x:RN}(h:Dg x.d.l):dv x.d.l=if 0≤x.v then x.v else - x.v:=by
 have:=qM h;unfold RN.v;cases x.neg<;>simp only[Bool.false_eq_true,if_false,if_true]<;>split<;>omega
def zZ3{k:Nat}{x:RN}(h:RNK k x){m:Nat}(h1:x.v<pw m)(h2:- pw m<x.v):RNK m x:=⟨h.dg,h.nz,h.sg,zUI h.dg h.nz (by rw[yBI h.dg];split<;>omega)⟩
def zJF(x:RN)(k:Nat)(hx:RNK k x)(hk:k<4294967000):∃y:RN,Om CC 154 [.t (.agg x.c)] []=some (.val (.t (.agg y.c)),[])∧(RNK k y∧y.v=- x.v):=by
 obtain⟨y,hy,h1,h2,-,h3⟩:=zBX (!x.neg) x.d hx.dg (by have:=hx.ln;omega);have hR:Hid (RNK k y∧y.v=- x.v):=⟨h1.mono hx.ln,by rw[h3];unfold RN.v;cases x.neg<;>simp⟩
 clear h1 h2 h3 hx hk;obtain⟨xn,xl⟩:=x;obtain⟨yn,yl⟩:=y;refine zH zXu rfl ?_;simp only[RN.c,Sl.t] at hy ⊢
 (have F_:=c5 zG zN zK vX (c2 yF7 zF7);show W CC 0 9 (zA 154) _ ⟨[(0,_)],[]⟩ _)
 (repeat' first|refine gA ?_|refine gT ?_ ?_<;>intro hv<;>try cases hv;done|fail)
 all_goals refine aM ?_<;>exact⟨⟨_,_⟩,⟨rfl,rfl⟩,hR.h⟩
def xa5:=c5 zG zN zK vX (c5 zNH zKa zF7 zNW zNI)
def zOo(x y:RN)(k:Nat)(hx:RNK k x)(hy:RNK k y)(hk:k<4294966000):∃z:RN,Om CC 151 [.t (.agg x.c),.t (.agg y.c)] []=some (.val (.t (.agg z.c)),[])∧(RNK (k+1) z∧z.v=x.v+y.v∧(x.neg=false→y.neg=false→z.neg=false)):=by
 refine zH zY6 rfl ?_;have lx:=hx.ln;have ly:=hy.ln;obtain⟨up,hup,u1,u2,u3⟩:=zPS x.d.l y.d.l x.d.nl x.d.cl y.d.nl y.d.cl hx.dg hy.dg (by omega) (by omega);obtain⟨by_,hby,b1⟩:=zZp x.d.l y.d.l x.d.nl x.d.cl y.d.nl y.d.cl hx.dg hy.dg hx.nz hy.nz (by omega) (by omega);obtain⟨d1,hd1,o1,e1⟩:=zMo x.d.l y.d.l x.d.nl x.d.cl y.d.nl y.d.cl hx.dg hy.dg (by omega) (by omega);obtain⟨d2,hd2,o2,e2⟩:=zMo y.d.l x.d.l y.d.nl y.d.cl x.d.nl x.d.cl hy.dg hx.dg (by omega) (by omega);obtain⟨t0,ht0,q0,q1,q2,q3⟩:=zBX x.neg up u1 (by omega);obtain⟨t1,ht1,p0,p1,p2,p3⟩:=zBX x.neg d1 e1.2.2.1 (by have:=e1.1;omega);obtain⟨t2,ht2,r0,r1,r2,r3⟩:=zBX y.neg d2 e2.2.2.1 (by have:=e2.1;omega);have hR0:Hid (x.neg=y.neg→(RNK (k+1) t0∧t0.v=x.v+y.v∧(x.neg=false→y.neg=false→t0.neg=false))):=⟨fun h=>⟨q0.mono (by omega),by
  rw[q3,u2];unfold RN.v;rw[← h];cases x.neg<;>simp<;>omega,fun h1 _=>q2 h1⟩⟩
 have hR1:Hid (x.neg≠y.neg→by_ ≥ 0→(RNK (k+1) t1∧t1.v=x.v+y.v∧(x.neg=false→y.neg=false→t1.neg=false))):=⟨fun h hb=>⟨p0.mono (by have:=e1.1;omega),by
  have:=(zQe e1 (b1.1 hb).1 (b1.1 hb).2).2.1;rw[p3,this];unfold RN.v;revert h;cases x.neg<;>cases y.neg<;>simp<;>omega,fun h1 _=>p2 h1⟩⟩
 have hR2:Hid (x.neg≠y.neg→¬ by_ ≥ 0→(RNK (k+1) t2∧t2.v=x.v+y.v∧(x.neg=false→y.neg=false→t2.neg=false))):=⟨fun h hb=>⟨r0.mono (by have:=e2.1;omega),by
  have:=(zQe e2 (b1.2 hb).1 (b1.2 hb).2).2.1;rw[r3,this];unfold RN.v;revert h;cases x.neg<;>cases y.neg<;>simp<;>omega,fun _ h2=>r2 h2⟩⟩
 clear hx hy lx ly u1 u2 u3 b1 e1 e2 q0 q1 q2 q3 p0 p1 p2 p3 r0 r1 r2 r3 hk;obtain⟨xn,xl⟩:=x;obtain⟨yn,yl⟩:=y;obtain⟨t0n,t0l⟩:=t0;obtain⟨t1n,t1l⟩:=t1;obtain⟨t2n,t2l⟩:=t2;simp only[RN.c,Sl.t] at *
 by_cases h:xn=yn
 ·have hb:(xn==yn)=true:=by simp [h]
  have hq:Hid _:=⟨hR0.h h⟩
  clear h hR0 hR1 hR2 hby hd1 hd2 ht1 ht2
  (have F_:=xa5;show W CC 0 40 (zA 151) _ ⟨[(0,_),(1,_)],[]⟩ _)
  (repeat' first|refine gA ?_|refine gT ?_ ?_<;>intro hv<;>try cases hv;done|fail)
  all_goals refine aM ?_<;>exact⟨⟨_,_⟩,⟨rfl,rfl⟩,hq.h⟩
 have hb:(xn==yn)=false:=by simpa using h
 by_cases hg:by_ ≥ 0
 ·have hd:decide (by_ ≥ 0)=true:=decide_eq_true hg;have hq:Hid _:=⟨hR1.h h hg⟩
  clear h hg hR0 hR1 hR2 hup ht0 hd2 ht2
  (have F_:=xa5;show W CC 0 40 (zA 151) _ ⟨[(0,_),(1,_)],[]⟩ _)
  (repeat' first|refine gA ?_|refine gT ?_ ?_<;>intro hv<;>try cases hv;done|fail)
  all_goals refine aM ?_<;>exact⟨⟨_,_⟩,⟨rfl,rfl⟩,hq.h⟩
 have hd:decide (by_ ≥ 0)=false:=decide_eq_false hg;have hq:Hid _:=⟨hR2.h h hg⟩
 clear h hg hR0 hR1 hR2 hup ht0 hd1 ht1
 (have F_:=xa5;show W CC 0 40 (zA 151) _ ⟨[(0,_),(1,_)],[]⟩ _)
 (repeat' first|refine gA ?_|refine gT ?_ ?_<;>intro hv<;>try cases hv;done|fail)
 all_goals refine aM ?_<;>exact⟨⟨_,_⟩,⟨rfl,rfl⟩,hq.h⟩
end Go.Ab
