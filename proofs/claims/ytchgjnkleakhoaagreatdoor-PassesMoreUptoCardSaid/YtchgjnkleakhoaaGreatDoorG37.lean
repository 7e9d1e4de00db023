/- Lemmas. -/
import Derived.Test.YtchgjnkleakhoaaGreatDoorG36
import Derived.Test.YtchgjnkleakhoaaGreatDoorG24
set_option maxRecDepth 1000000
set_option maxHeartbeats 40000000
set_option linter.all false
namespace Go.Ab
open Go.Proofs
def LE1(a b:Ans):Prop:=a.e=0→b=a
theorem LE1.same(a:Ans):LE1 a a:=fun _=>rfl
theorem LE1.err{a b:Ans}(h:a.e≠0):LE1 a b:=fun h'=>absurd h' h
theorem LE1.eq{a b:Ans}(h:b=a):LE1 a b:=fun _=>h
def zHV{a b:Ans}(h:LE1 a b):LE1 (vB a) (vB b):=by
 by_cases he:a.e=0
 ·exact .eq (by rw[h he])
 have:vB a=a:=if_neg fun q=>he q.1
 rw[this];exact .err he
def zOW{F:Val→Val→Val}{e:Int}{t u t' u':Ans}(ht:LE1 t t')(hu:LE1 u u'):LE1 (zCF F e t u) (zCF F e t' u'):=by
 by_cases h:t.e=0
 ·rw[ht h]
  by_cases h2:u.e=0
  ·exact .eq (by rw[hu h2])
  unfold zCF
  by_cases h3:t.e≠0∨(t.v.k=4∧t.v.n=e)
  ·rw[if_pos h3,if_pos h3];exact .same _
  rw[if_neg h3,if_pos h2];exact .err h2
 unfold zCF;rw[if_pos (.inl h)];exact .err h
def zYA{t t':Ans}(ht:LE1 t t'):LE1 (notK t) (notK t'):=by
 by_cases h:t.e=0
 ·exact .eq (by rw[ht h])
 unfold notK;rw[if_neg h];exact .err h
def zSj{t a b t' a' b':Ans}(ht:LE1 t t')(ha:LE1 a a')(hb:LE1 b b'):LE1 (zBk t a b) (zBk t' a' b'):=by
 by_cases h:t.e=0
 ·rw[ht h];unfold zBk
  by_cases h2:t.e≠0∨t.v.k=0
  ·rw[if_pos h2,if_pos h2];exact .same _
  rw[if_neg h2,if_neg h2]
  by_cases h3:t.v.n=1
  ·rw[if_pos h3,if_pos h3];exact ha
  rw[if_neg h3,if_neg h3];exact hb
 unfold zBk;rw[if_pos (.inl h)];exact .err h
def LEl(kl kl':List Ans):Prop:=kl.length=kl'.length∧∀k,LE1 (getA kl k) (getA kl' k)
theorem Lf.le{n:Nat}{kl kl':List Ans}{O:List Val→Ans→Prop}{x x':Ans}(hl:LEl kl kl')(h:Lf n kl O x)(h':Lf n kl' O x')(hO:∀l a b,O l a→O l b→a=b):LE1 x x':=by
 rcases h with ⟨k,hk,he,rfl⟩|⟨hz,ho⟩
 ·exact .err he
 have hs:∀k,k<n→getA kl' k=getA kl k:=fun k hk=>hl.2 k (hz k hk)
 rcases h' with ⟨k,hk,he,_⟩|⟨_,ho'⟩
 ·rw[hs k hk] at he;exact absurd (hz k hk) he
 have:(List.range n).map (fun k=>(getA kl' k).v)=(List.range n).map fun k=>(getA kl k).v:=List.map_congr_left fun k hk=>by rw[hs k (List.mem_range.1 hk)]
 rw[this] at ho';exact .eq (hO _ _ _ ho' ho)
def zRT{f:Nat}(l:List Val)(a b:Ans)(h1:LfO0 f l a)(h2:LfO0 f l b):a=b:=zFp h1 h2
def zOJ{f:Nat}{w:Tree}(l:List Val)(a b:Ans)(h1:LfO1 f w l a)(h2:LfO1 f w l b):a=b:=zFp h1 h2
def zPb{f:Nat}{w w':Tree}(l:List Val)(a b:Ans)(h1:LfO2 f w w' l a)(h2:LfO2 f w w' l b):a=b:=zFp h1 h2
def zXs{s n c:Bool}{nb:List Bool}(l:List Val)(a b:Ans)(h1:EqO s n c nb l a)(h2:EqO s n c nb l b):a=b:=zFp h1 h2
theorem TrR.le{nl cl:Bool}{nb:List Bool}{kl kl':List Ans}{op:Int}{x x':Ans×Bool}(hl:LEl kl kl')(h:TrR nl cl nb kl op x)(h':TrR nl cl nb kl' op x'):x'.2=x.2∧LE1 x.1 x'.1:=by
 have h0:=zHV (hl.2 0);have h1:=zHV (hl.2 1);cases h with
 |tor e=>cases h'<;>first|exact⟨rfl,zOW h0 h1⟩|(exfalso;omega)
 |tand e=>cases h'<;>first|exact⟨rfl,zOW h0 h1⟩|(exfalso;omega)
 |tnot e=>cases h'<;>first|exact⟨rfl,zYA h0⟩|(exfalso;omega)
 |teq e f=>cases h'<;>first|exact⟨rfl,f.le hl ‹_› zXs⟩|(exfalso;omega)
 |tne e f=>cases h'<;>first|exact⟨rfl,f.le hl ‹_› zXs⟩|(exfalso;omega)
 |tlt e f=>cases h'<;>first|exact⟨rfl,f.le hl ‹_› zOJ⟩|(exfalso;omega)
 |tle e f=>cases h'<;>first|exact⟨rfl,f.le hl ‹_› zOJ⟩|(exfalso;omega)
 |tgt e f=>cases h'<;>first|exact⟨rfl,f.le hl ‹_› zOJ⟩|(exfalso;omega)
 |tge e f=>cases h'<;>first|exact⟨rfl,f.le hl ‹_› zOJ⟩|(exfalso;omega)
 |thas e f=>cases h'<;>first|exact⟨rfl,f.le hl ‹_› zPb⟩|(exfalso;omega)
 |thead e f=>cases h'<;>first|exact⟨rfl,f.le hl ‹_› zPb⟩|(exfalso;omega)
 |tno e=>cases h'<;>first|exact⟨rfl,.same _⟩|(exfalso;omega)
theorem OtR.le{kl kl':List Ans}{op:Int}{x x':Ans}(hl:LEl kl kl')(h:OtR kl op x)(h':OtR kl' op x'):LE1 x x':=by
 have h0:=zHV (hl.2 0);have hn:=hl.1;cases h with
 |oif e=>cases h'<;>first|exact zSj h0 (hl.2 1) (hl.2 2)|(exfalso;omega)
 |ono e=>cases h'<;>first|exact .same _|(exfalso;omega)
 |oneg e f=>cases h'<;>first|exact f.le hl ‹_› zRT|(exfalso;omega)
 |oabs e f=>cases h'<;>first|exact f.le hl ‹_› zRT|(exfalso;omega)
 |omin e f=>cases h'<;>first|(exfalso;omega)|(rename_i e' f';rw[← hn] at f';exact f.le hl f' zRT)
 |omax e f=>cases h'<;>first|(exfalso;omega)|(rename_i e' f';rw[← hn] at f';exact f.le hl f' zRT)
 |omod e f=>cases h'<;>first|exact f.le hl ‹_› zPb|(exfalso;omega)
 |olen e f=>cases h'<;>first|exact f.le hl ‹_› zPb|(exfalso;omega)
 |oup e f=>cases h'<;>first|exact f.le hl ‹_› zPb|(exfalso;omega)
 |_ e f=>cases h'<;>first|exact f.le hl ‹_› zOJ|(exfalso;omega)
def zYK(name:List Nat)(l m:List Bind):LE1 (varA name l) (varA name (l++m)):=by
 cases hf:l.findIdx? (fun b=>beqL b.name name) with
 |none =>
  refine .err ?_;unfold varA;rw[hf]
  show (Fail 11).e≠0
  rw[zQa];decide
 |some i =>
  refine .eq ?_;have hi:i<l.length:=by have:=List.findIdx?_eq_some_iff_getElem.1 hf;exact this.1
  unfold varA;rw[List.findIdx?_append,hf];simp only[Option.some_or,List.map_append,List.getD_eq_getElem?_getD];rw[List.getElem?_append_left (by simpa using hi)]
def zWY(op:Int)(v:Val)(name:List Nat)(self:Val)(l m:List Bind):(uJ op v name self (l++m)).2=(uJ op v name self l).2∧LE1 (uJ op v name self l).1 (uJ op v name self (l++m)).1:=by
 unfold uJ;split
 ·exact⟨rfl,.same _⟩
 split
 ·exact⟨rfl,.same _⟩
 split
 ·exact⟨rfl,zYK _ _ _⟩
 exact⟨rfl,.same _⟩
def zQH{al al':List Ans}(h:LEl al al')(ns:List SNode)(k:Int):LE1 (kidA al ns k).1 (kidA al' ns k).1∧(kidA al' ns k).2=(kidA al ns k).2:=by
 unfold kidA;rw[← h.1];split
 ·exact⟨.same _,rfl⟩
 exact⟨h.2 _,rfl⟩
def zYC{al al':List Ans}(h:LEl al al')(ns:List SNode)(ks:List Int):LEl (ks.map fun k=>(kidA al ns k).1) (ks.map fun k=>(kidA al' ns k).1):=by
 refine⟨by simp,fun i=>?_⟩;unfold getA;rw[List.getD_eq_getElem?_getD,List.getD_eq_getElem?_getD,List.getElem?_map,List.getElem?_map];cases ks[i]? with
 |none=>exact .same _
 |some k=>exact(zQH h ns k).1
def zW1{al al':List Ans}(h:LEl al al')(ha:∀a ∈ al,AOK a)(ha':∀a ∈ al',AOK a)(ns:List SNode)(x:SNode)(hx:x.kids.length<4294967295)(self:Val)(l m:List Bind):LE1 (zDF al ns x self l) (zDF al' ns x self (l++m)):=by
 obtain⟨l1,l2⟩:=zWY x.op x.v x.name self l m;have hk:=zYC h ns x.kids;have hn:(x.kids.map fun k=>(kidA al' ns k).2)=x.kids.map fun k=>(kidA al ns k).2:=List.map_congr_left fun k _=>(zQH h ns k).2
 have p1:∀a ∈ x.kids.map fun k=>(kidA al ns k).1,AOK a:=fun a hm=>by obtain⟨k,_,rfl⟩:=List.mem_map.1 hm;exact zPm al ns k ha
 have p2:∀a ∈ x.kids.map fun k=>(kidA al' ns k).1,AOK a:=fun a hm=>by obtain⟨k,_,rfl⟩:=List.mem_map.1 hm;exact zPm al' ns k ha'
 unfold zDF;rw[l1,hn]
 by_cases h1:(uJ x.op x.v x.name self l).2=true
 ·rw[if_pos h1,if_pos h1];exact l2
 rw[if_neg h1,if_neg h1];have t1:=zOI x.op _ (x.kids.map fun k=>(kidA al ns k).2) p1;have t2:=zOI x.op _ (x.kids.map fun k=>(kidA al ns k).2) p2;have he:(x.kids.map fun k=>(kidA al' ns k).1).isEmpty=(x.kids.map fun k=>(kidA al ns k).1).isEmpty:=by cases x.kids<;>rfl
 rw[he] at t2;obtain⟨t3,t4⟩:=t1.le hk t2;rw[t3];split
 ·exact t4
 exact(zOc x.op _ (x.kids.map fun k=>(kidA al ns k).2) p1 (by rw[List.length_map];exact hx)).le hk (zOc x.op _ _ p2 (by rw[List.length_map];exact hx))
def zMU{al:List Ans}{a:Ans}(k:Nat):getA (al++[a]) k=if k<al.length then getA al k else if k=al.length then a else AZero:=by
 unfold getA;rw[List.getD_eq_getElem?_getD,List.getD_eq_getElem?_getD,List.getElem?_append];split
 ·rfl
 rename_i h;split
 ·rename_i h2;subst h2;simp
 rename_i h2;rw[List.getElem?_eq_none (by simp;omega)];rfl
theorem LEl.snoc{al al':List Ans}{a a':Ans}(h:LEl al al')(ha:LE1 a a'):LEl (al++[a]) (al'++[a']):=by
 refine⟨by simp [h.1],fun k=>?_⟩;rw[zMU,zMU,← h.1];split
 ·exact h.2 k
 split
 ·exact ha
 exact .same _
def zOg(ns:List SNode)(self:Val)(l m:List Bind)(hn:∀x ∈ ns,VOK x.v)(hkl:∀x ∈ ns,x.kids.length<4294967295)(hs:VOK self)(hv:∀b ∈ l++m,VOK b.v):∀i,LEl (wH ns self l i) (wH ns self (l++m) i)
 |0=>⟨rfl,fun _=>.same _⟩
 |i+1=>by
  have ih:=zOg ns self l m hn hkl hs hv i;rw[wH,wH];refine ih.snoc ?_;cases hx:ns[i]? with
  |none=>exact .same _
  |some x=>exact zW1 ih (zGz ns self l hn hs (fun b hb=>hv b (List.mem_append_left _ hb)) i) (zGz ns self (l++m) hn hs hv i) ns x (hkl x (List.mem_of_getElem? hx)) self l m
def zVN(ns:List SNode)(self:Val)(l m:List Bind)(hn:∀x ∈ ns,VOK x.v)(hkl:∀x ∈ ns,x.kids.length<4294967295)(hs:VOK self)(hv:∀b ∈ l++m,VOK b.v):LE1 (wL ns self l) (wL ns self (l++m)):=by
 have h:=zOg ns self l m hn hkl hs hv ns.length;have q:=h.2 (ns.length - 1);have e1:∀vs,wL ns self vs=getA (wH ns self vs ns.length) (ns.length - 1):=fun vs=>by
  unfold wL zFT getA;rw[List.getD_eq_getElem?_getD,List.getLast?_eq_getElem?,vF]
 rw[e1,e1];exact q
def zYg{a b:Ans}(h:LE1 a b):LE1 (NotU a) (NotU b):=by
 by_cases he:a.e=0
 ·exact .eq (by rw[h he])
 have he':(a.e==0)=false:=by simpa using he
 obtain⟨⟨k,n,s⟩,e⟩:=a;rw[zY0 (yAY he' (zTf he'))];exact .err he
def yHT{a b a' b':Ans}(ha:LE1 a a')(hb:LE1 b b'):LE1 (BA a b) (BA a' b'):=by
 by_cases h:a.e=0
 ·rw[ha h]
  by_cases h2:b.e=0
  ·exact .eq (by rw[hb h2])
  unfold BA
  by_cases h3:a.e≠0∨a.v=VT
  ·rw[if_pos h3,if_pos h3];exact .same _
  rw[if_neg h3,if_pos h2];exact .err h2
 unfold BA;rw[if_pos (.inl h)];exact .err h
def zRc{a b a' b':Ans}(ta:TB a)(tb:TB b)(tb':TB b')(ha:LE1 a a')(hb:LE1 b b'):LE1 (kT a b) (kT a' b'):=by
 by_cases h:a.e=0
 ·rw[ha h]
  by_cases h2:b.e=0
  ·exact .eq (by rw[hb h2])
  rw[zEX ta tb,zEX ta tb']
  by_cases h3:a.e≠0∨a.v=VF
  ·rw[if_pos h3,if_pos h3];exact .same _
  rw[if_neg h3,if_pos h2];exact .err h2
 rw[zEX ta tb,if_pos (.inl h)];exact .err h
inductive LEf:List Ans→List Ans→Prop
 |nil:LEf [] []
 |cons {a b:Ans} {l r:List Ans} (h:LE1 a b) (t:LEf l r):LEf (a::l) (b::r)
theorem LEf.map{f g:Int→Ans}(h:∀k,LE1 (f k) (g k)):∀ks:List Int,LEf (ks.map f) (ks.map g)
 |[]=>.nil
 |k::ks=>.cons (h k) (LEf.map h ks)
theorem LEf.fold{l r:List Ans}(h:LEf l r):∀ {a b:Ans},LE1 a b→LE1 (l.foldl BA a) (r.foldl BA b):=by
 induction h with
 |nil=>exact id
 |cons h t ih=>exact fun hab=>ih (yHT hab h)
theorem LEf.drop{l r:List Ans}(h:LEf l r):LEf (l.drop 1) (r.drop 1):=by cases h<;>first|exact .nil|assumption
theorem LEf.head{l r:List Ans}(h:LEf l r):LE1 (getA l 0) (getA r 0):=by cases h<;>first|exact .same _|assumption
def zVY{al al':List Ans}(h:LEl al al')(ks:List Int):LEf (zAl al ks) (zAl al' ks):=by
 unfold zAl;split
 ·exact .cons (.same _) .nil
 refine LEf.map (fun k=>?_) ks;unfold kidT;rw[← h.1];split
 ·exact .same _
 exact h.2 _
def NVt(x:STst):Prop:=(∀n ∈ x.a,VOK n.v∧n.kids.length<4294967295)∧∀n ∈ x.b,VOK n.v∧n.kids.length<4294967295
def zJY{self:Val}{l m:List Bind}(hs:VOK self)(hv:∀b ∈ l++m,VOK b.v)(op:Int)(a:List SNode)(ha:∀n ∈ a,VOK n.v∧n.kids.length<4294967295):LE1 (wL (vA op a) self l) (wL (vA op a) self (l++m)):=by
 have key:∀n ∈ vA op a,VOK n.v∧n.kids.length<4294967295:=fun n hn=>by
  simp only[vA,List.mem_append,List.mem_cons,List.not_mem_nil,or_false] at hn;rcases hn with hn|rfl|rfl
  ·exact ha n hn
  ·exact⟨yR,by simp⟩
  exact⟨yR,by simp⟩
 exact zVN _ self l m (fun n hn=>(key n hn).1) (fun n hn=>(key n hn).2) hs hv
def zVH{self:Val}{l m:List Bind}(hs:VOK self)(hv:∀b ∈ l++m,VOK b.v)(x:STst)(hx:NVt x){al al':List Ans}(h:LEl al al')(ha:∀a ∈ al,TB a)(ha':∀a ∈ al',TB a):LE1 (zFQ (SemA self l) x al) (zFQ (SemA self (l++m)) x al'):=by
 unfold zFQ zFG
 by_cases h7:x.op=7
 ·rw[if_pos h7];dsimp only[List.map_cons,List.map_nil,SemA];have o1:∀b:Bool,(if b then (11:Int) else 12)=7∨(if b then (11:Int) else 12)=8∨(if b then (11:Int) else 12)=9∨(if b then (11:Int) else 12)=10∨(if b then (11:Int) else 12)=11∨(if b then (11:Int) else 12)=12:=by decide
  have o2:∀b:Bool,(if b then (9:Int) else 10)=7∨(if b then (9:Int) else 10)=8∨(if b then (9:Int) else 10)=9∨(if b then (9:Int) else 10)=10∨(if b then (9:Int) else 10)=11∨(if b then (9:Int) else 10)=12:=by decide
  exact zRc (zNI self l _ _ (o1 _)) (zNI self l _ _ (o2 _)) (zNI self (l++m) _ _ (o2 _)) (zJY hs hv _ _ hx.1) (zJY hs hv _ _ hx.2)
 rw[if_neg h7];cases hg:zBi x.op with
 |some s=>exact zJY hs hv _ _ hx.1
 |none =>
  show LE1 (zJm (SemA self l) x.op (zAl al x.kids)) (zJm (SemA self (l++m)) x.op (zAl al' x.kids))
  have hk:=zVY h x.kids;unfold zJm;split
  ·exact .same _
  split
  ·exact zYg hk.head
  split
  ·have t1:=zJ6 ha x.kids;have t2:=zJ6 ha' x.kids;rw[zG9 (zNK self l).any _ (zGx t1 0) (fun b hb=>t1 b (List.mem_of_mem_drop hb)),zG9 (zNK self (l++m)).any _ (zGx t2 0) (fun b hb=>t2 b (List.mem_of_mem_drop hb))];exact hk.drop.fold hk.head
  exact .same _
def zWd{self:Val}{l m:List Bind}(hs:VOK self)(hv:∀b ∈ l++m,VOK b.v)(ts:List STst)(hx:∀x ∈ ts,NVt x):LE1 (uT ts self l) (uT ts self (l++m)):=by
 have hn:∀i,LEl (zAD (SemA self l) ts i) (zAD (SemA self (l++m)) ts i):=by
  intro i
  induction i with
  |zero=>exact⟨rfl,fun _=>.same _⟩
  |succ i ih =>
   rw[zAD,zAD];refine ih.snoc ?_;cases hq:ts[i]? with
   |none=>exact .same _
   |some x=>exact zVH hs hv x (hx x (List.mem_of_getElem? hq)) ih (zGV (zNK self l) ts i) (zGV (zNK self (l++m)) ts i)
 rw[zLb,zLb];unfold zOR;have q:=(hn ts.length).2 (ts.length - 1);cases ts with
 |nil=>exact .same _
 |cons t r =>
  have e1:∀S:Sem,zGb (zAD S (t::r) (t::r).length)=getA (zAD S (t::r) (t::r).length) ((t::r).length - 1):=fun S=>by
   unfold zGb getA;rw[List.getD_eq_getElem?_getD,List.getLast?_eq_getElem?,zFo];rw[List.getElem?_eq_getElem (by rw[zFo];simp)]
   rfl
  rw[e1,e1];exact q
def zYL{self:Val}{l m:List Bind}(hs:VOK self)(hv:∀b ∈ l++m,VOK b.v)(ts:List STst)(hx:∀x ∈ ts,NVt x)(h:zEV (uT ts self l)=true):zEV (uT ts self (l++m))=true:=by
 have:(uT ts self l).e=0:=by
  unfold zEV at h;simp only[Bool.and_eq_true,beq_iff_eq] at h;exact h.1
 rw[zWd hs hv ts hx this];exact h
def qI(name:List Nat)(l:List Bind):Val×Bool :=
 match l.findIdx? (fun b=>beqL b.name name) with
 |some i=>(match l[i]? with|some b=>(b.v,true)|none=>(Zero,false))
 |none=>(Zero,false)
def atA(t:Tpl)(f:Fact)(name:List Nat):Val×Bool :=
 match t.slots.l.findIdx? (fun s=>beqL s.name name) with
 |some i=>(match f.s.l[i]? with|some v=>(v,true)|none=>(Zero,false))
 |none=>(Zero,false)
def zRJ(t:Tpl)(f:Fact)(name:List Nat)(h:∀v ∈ f.s.l,VOK v):VOK (atA t f name).1:=by
 unfold atA;split
 ·split
  ·rename_i v hv;exact h v (List.mem_of_getElem? hv)
  exact yR
 exact yR
def varS(t:List STst):List Nat×Bool:=match t with
 |[x]=>if x.op=2 then (match x.a with|[n]=>if n.op=2 then (n.name,true) else ([],false)|_=>([],false)) else ([],false)
 |_=>([],false)
noncomputable def kG(t:Tpl)(f:Fact)(slot:List Nat)(ts:List STst)(out:List Bind):Option (List Bind) :=
 if (atA t f slot).2=false then none
 else if (varS ts).2 then
  (if (qI (varS ts).1 out).2=false then some (out++[⟨(varS ts).1,(atA t f slot).1⟩])
   else if (qI (varS ts).1 out).1=(atA t f slot).1 then some out else none)
 else if zEV (uT ts (atA t f slot).1 out) then some out else none
noncomputable def xR(t:Tpl)(f:Fact):List (List Nat×List STst)→List Bind→Option (List Bind)
 |[],out=>some out
 |s::r,out=>match kG t f s.1 s.2 out with
  |none=>none
  |some o=>xR t f r o
def zJn{name:List Nat}{l m:List Bind}(h:(qI name l).2=true):qI name (l++m)=qI name l:=by
 unfold qI at h ⊢;cases hf:l.findIdx? (fun b=>beqL b.name name) with
 |none=>rw[hf] at h;cases h
 |some i =>
  have hi:i<l.length:=(List.findIdx?_eq_some_iff_getElem.1 hf).1;rw[List.findIdx?_append,hf];simp only[Option.some_or];rw[List.getElem?_append_left hi]
def zPu{name:List Nat}{l:List Bind}{v:Val}(h:(qI name l).2=false):qI name (l++[⟨name,v⟩])=(v,true):=by
 unfold qI at h ⊢;cases hf:l.findIdx? (fun b=>beqL b.name name) with
 |some i =>
  have hi:i<l.length:=(List.findIdx?_eq_some_iff_getElem.1 hf).1;rw[hf] at h;dsimp only at h;rw[List.getElem?_eq_getElem hi] at h;cases h
 |none =>
  rw[List.findIdx?_append,hf,List.findIdx?_singleton];have:beqL name name=true:=by rw[vC];simp
  simp [this]
section
variable {t:Tpl} {f:Fact}
theorem zMH{s:List Nat×List STst}{out o:List Bind}(hf:∀v ∈ f.s.l,VOK v)(h:kG t f s.1 s.2 out=some o):∃e,o=out++e∧∀b ∈ e,VOK b.v:=by
 unfold kG at h;split at h
 ·cases h
 split at h
 ·split at h
  ·cases h;exact⟨_,rfl,fun b hb=>by rw[List.mem_singleton.1 hb];exact zRJ t f _ hf⟩
  split at h
  ·cases h;exact⟨[],(List.append_nil _).symm,fun b hb=>by cases hb⟩
  cases h
 split at h
 ·cases h;exact⟨[],(List.append_nil _).symm,fun b hb=>by cases hb⟩
 cases h
theorem zHM(hf:∀v ∈ f.s.l,VOK v):∀(r:List (List Nat×List STst)) {out a:List Bind},xR t f r out=some a→∃e,a=out++e∧∀b ∈ e,VOK b.v
 |[],out,a,h=>by cases h;exact⟨[],(List.append_nil _).symm,fun b hb=>by cases hb⟩
 |s::r,out,a,h=>by
  rw[xR] at h;cases hs:kG t f s.1 s.2 out with
  |none=>rw[hs] at h;cases h
  |some o =>
   rw[hs] at h;obtain⟨e,rfl,he⟩:=zMH hf hs;obtain⟨e2,rfl,he2⟩:=zHM hf r h;exact⟨e++e2,List.append_assoc ..,fun b hb=>(List.mem_append.1 hb).elim (he b) (he2 b)⟩
theorem zPJ{s:List Nat×List STst}{out o m:List Bind}(hf:∀v ∈ f.s.l,VOK v)(hx:∀x ∈ s.2,NVt x)(hv:∀b ∈ o++m,VOK b.v)(h:kG t f s.1 s.2 out=some o):kG t f s.1 s.2 (o++m)=some (o++m):=by
 unfold kG at h ⊢;split at h
 ·cases h
 rename_i h1;rw[if_neg h1];split at h
 ·rename_i h2;rw[if_pos h2];split at h
  ·rename_i h3;cases h;have hb:=zPu (v:=(atA t f s.1).1) h3;rw[zJn (by rw[hb]),hb];rw[if_neg (by simp),if_pos rfl]
  rename_i h3;have h3':(qI (varS s.2).1 out).2=true:=by simpa using h3
  split at h
  ·rename_i h4;cases h;rw[zJn h3',if_neg h3,if_pos h4]
  cases h
 rename_i h2;rw[if_neg h2];split at h
 ·rename_i h3;cases h;rw[if_pos (zYL (zRJ t f _ hf) hv s.2 hx h3)]
 cases h
theorem zJu(hf:∀v ∈ f.s.l,VOK v):∀(r:List (List Nat×List STst)) {out a:List Bind} (m:List Bind),(∀s ∈ r,∀x ∈ s.2,NVt x)→(∀b ∈ out,VOK b.v)→(∀b ∈ m,VOK b.v)→xR t f r out=some a→xR t f r (a++m)=some (a++m)
 |[],out,a,m,_,_,_,h=>rfl
 |s::r,out,a,m,hx,hv,hm,h=>by
  rw[xR] at h ⊢;cases hs:kG t f s.1 s.2 out with
  |none=>rw[hs] at h;cases h
  |some o =>
   rw[hs] at h;dsimp only at h;obtain⟨e,he,hev⟩:=zMH hf hs;obtain⟨e2,rfl,he2⟩:=zHM hf r h;have hov:∀b ∈ o,VOK b.v:=fun b hb=>by rw[he] at hb;exact(List.mem_append.1 hb).elim (hv b) (hev b)
   have h1:=zPJ (m:=e2++m) hf (hx s List.mem_cons_self) (fun b hb=>by
    rcases List.mem_append.1 hb with hb|hb
    ·exact hov b hb
    exact(List.mem_append.1 hb).elim (he2 b) (hm b)) hs
   rw[List.append_assoc,h1];have h2:=zJu hf r m (fun s' hs'=>hx s' (List.mem_cons_of_mem _ hs')) hov hm h;rw[List.append_assoc] at h2;exact h2
theorem zNf:∀(l r:List (List Nat×List STst)) (out:List Bind),xR t f (l++r) out=(xR t f l out).bind (xR t f r)
 |[],r,out=>rfl
 |s::l,r,out=>by
  rw[List.cons_append,xR,xR];cases kG t f s.1 s.2 out with
  |none=>rfl
  |some o=>exact zNf l r o
theorem zRp{l r:List (List Nat×List STst)}{s:List Nat×List STst}{out a:List Bind}(hs:(varS s.2).2=false)(h:xR t f (l++s::r) out=some a):xR t f (l++r) out=some a:=by
 rw[zNf] at h ⊢;cases hl:xR t f l out with
 |none=>rw[hl] at h;cases h
 |some o =>
  rw[hl] at h
  change xR t f (s::r) o=some a at h
  show xR t f r o=some a
  rw[xR] at h;have hk:kG t f s.1 s.2 o=some o∨kG t f s.1 s.2 o=none:=by
   unfold kG;split
   ·exact .inr rfl
   rw[if_neg (by rw[hs];decide)];split
   ·exact .inl rfl
   exact .inr rfl
  rcases hk with hk|hk
  ·rw[hk] at h;exact h
  rw[hk] at h;cases h
end
attribute [local irreducible] W RW RR
def yDk(b:Bind)(name:List Nat):Om CC 24 [.t (.agg [.str b.name,.int .u8 b.v.k,.int .i64 b.v.n,.str b.v.s]),.box 0 0] [.box [.t (.str name)]]=some (.val (.t (.bool (beqL b.name name))),[.box [.t (.str name)]]):=by
 refine zK yBB rfl ?_
 (have F_:=c5 zF zE zD zB (c2 vV yGO);show W CC 1 8 (zA 24) _ ⟨[(0,_),(1,_)],[_]⟩ _)
 (repeat' first|refine gA ?_|refine gT ?_ ?_<;>intro hv<;>try cases hv;done|fail)
 ((refine aK ?_ ?_))<;>rfl
def zDm(name:List Nat)(l:List Bind):Int :=
 match l.findIdx? (fun b=>beqL b.name name) with
 |some i=>i
 |none=>-1
def zRd{name:List Nat}{l:List Bind}{i:Nat}(hi:i<l.length)(h:beqL l[i].name name=true)(hn:∀j (hj:j<l.length),j<i→beqL l[j].name name=false):l.findIdx? (fun b=>beqL b.name name)=some i:=by
 rw[List.findIdx?_eq_some_iff_getElem];exact⟨hi,h,fun j hj=>by simp [hn j (by omega) hj]⟩
def zPT{name:List Nat}{l:List Bind}(hn:∀j (hj:j<l.length),beqL l[j].name name=false):l.findIdx? (fun b=>beqL b.name name)=none:=by
 rw[List.findIdx?_eq_none_iff];intro x hx;obtain⟨j,hj,rfl⟩:=List.getElem_of_mem hx;exact hn j hj
def zVx (nl cl:Bool) (l:List Bind) (name:List Nat) (hl:l.length<9223372036854775808) :
  Om CC 23 [.t (.sl nl cl (l.map Bind.c)),.fn 24 [] [.box 0 0]] [.box [.t (.str name)]]=some (.val (.t (.int .i64 (zDm name l))),[.box [.t (.str name)]]):=by
 refine zK yGg rfl ?_
 (have F_:=c5 zF zG zE zD (c5 uH zB vV zXz (c3 yHe yGV @yDk));show W CC 1 19 (zA 23) _ ⟨[(0,_),(1,_)],[_]⟩ _)
 (repeat' first|refine gA ?_|refine gT ?_ ?_<;>intro hv<;>try cases hv;done|fail)
 refine zY (α:=Nat) (fun i=>⟨[(0,.t (.sl nl cl (l.map Bind.c))),(1,.fn 24 [] [.box 0 0]),(7,.t (.int .i64 l.length)),(8,.t (.int .i64 i))],[.box [.t (.str name)]]⟩) (fun i=>l.length - i)
  (fun i=>i≤l.length∧∀j (hj:j<l.length),j<i→beqL l[j].name name=false) 0 (by kernel_rfl) ⟨Nat.zero_le _,fun j _ hj=>by omega⟩ ?_
 rintro i ⟨hi,hn⟩
 by_cases hi':i<l.length
 ·have hw:=wI64 i (by omega);have he:l[i]?=some l[i]:=List.getElem?_eq_getElem hi';have hd:decide ((i:Int)<l.length)=true:=by simpa using hi'
  cases hb:beqL l[i].name name with
  |true =>
   have hr:zDm name l=i:=by unfold zDm;rw[zRd hi' hb hn]
   rw[hr];clear hn hr
   (repeat' first|refine gA ?_|refine gT ?_ ?_<;>intro hv<;>try cases hv;done|fail)
   ((refine aK ?_ ?_))<;>rfl
  |false =>
   have hn':∀j (hj:j<l.length),j<i+1→beqL l[j].name name=false:=fun j hj hji=>by
    rcases Nat.lt_or_ge j i with h|h
    ·exact hn j hj h
    obtain rfl:j=i:=by omega
    exact hb
   clear hn
   (repeat' first|refine gA ?_|refine gT ?_ ?_<;>intro hv<;>try cases hv;done|fail)
   refine zC (i+1) (by omega) ⟨by omega,hn'⟩ (by exact aTd)
 have hd:decide ((i:Int)<l.length)=false:=by simpa using hi'
 have hr:zDm name l=-1:=by unfold zDm;rw[zPT fun j hj=>hn j hj (by omega)]
 rw[hr];clear hn hr
 (repeat' first|refine gA ?_|refine gT ?_ ?_<;>intro hv<;>try cases hv;done|fail)
 ((refine aK ?_ ?_))<;>rfl
def zXc (nl cl:Bool) (l:List Bind) (name:List Nat) (hl:l.length<9223372036854775808) :
  Om CC 18 [.t (.sl nl cl (l.map Bind.c)),.t (.str name)] []=some (.val (.tup [.t (.agg [.int .u8 (qI name l).1.k,.int .i64 (qI name l).1.n,.str (qI name l).1.s]),.t (.bool (qI name l).2)]),[]):=by
 refine zK yCh rfl ?_
 (have F_:=c5 zF zG zE zD (c5 uH zB vV zXz (c2 yGt yHC));show W CC 0 18 (zA 18) _ ⟨[(0,_),(1,_)],[]⟩ _)
 have hc:=zVx nl cl l name hl;cases hf:l.findIdx? (fun b=>beqL b.name name) with
 |none =>
  have h1:zDm name l=-1:=by unfold zDm;rw[hf]
  have h2:qI name l=(Zero,false):=by unfold qI;rw[hf]
  rw[h2];rw[h1] at hc;clear h1 h2 hf
  (repeat' first|refine gA ?_|refine gT ?_ ?_<;>intro hv<;>try cases hv;done|fail)
  (refine aK ?_ ?_)
  ·rfl
  rfl
 |some i =>
  have hi:i<l.length:=by
   rw[List.findIdx?_eq_some_iff_getElem] at hf;exact hf.1
  have he:l[i]?=some l[i]:=List.getElem?_eq_getElem hi;have h1:zDm name l=(i:Int):=by unfold zDm;rw[hf]
  have h2:qI name l=(l[i].v,true):=by unfold qI;rw[hf];simp only[he]
  have hd:decide ((i:Int)<0)=false:=by simp
  rw[h2];rw[h1] at hc;clear h1 h2 hf;generalize l[i]=b at he
  (repeat' first|refine gA ?_|refine gT ?_ ?_<;>intro hv<;>try cases hv;done|fail)
  (refine aK ?_ ?_)
  ·rfl
  rfl
def zWQ{name:List Nat}{l:List Slot}{i:Nat}(hi:i<l.length)(h:beqL l[i].name name=true)(hn:∀j (hj:j<l.length),j<i→beqL l[j].name name=false):l.findIdx? (fun b=>beqL b.name name)=some i:=by
 rw[List.findIdx?_eq_some_iff_getElem];exact⟨hi,h,fun j hj=>by simp [hn j (by omega) hj]⟩
def zT3{name:List Nat}{l:List Slot}(hn:∀j (hj:j<l.length),beqL l[j].name name=false):l.findIdx? (fun b=>beqL b.name name)=none:=by
 rw[List.findIdx?_eq_none_iff];intro x hx;obtain⟨j,hj,rfl⟩:=List.getElem_of_mem hx;exact hn j hj
def yGu (t:Tpl) (f:Fact) (name:List Nat) (hl:t.slots.l.length<9223372036854775808) :
  Om CC 16 [.t (.agg t.c),.t (.agg f.c),.t (.str name)] []=some (.val (.tup [.t (.agg [.int .u8 (atA t f name).1.k,.int .i64 (atA t f name).1.n,.str (atA t f name).1.s]),.t (.bool (atA t f name).2)]),[]):=by
 refine zK yEG rfl ?_;obtain⟨tn,⟨snl,scl,l⟩⟩:=t;obtain⟨id,tp,⟨fnl,fcl,fl⟩⟩:=f;dsimp only at hl
 (have F_:=c5 zF zG zE zD (c5 xE zCP zBw zBA (c3 zB zBz yGB));show W CC 0 37 (zA 16) _ ⟨[(0,_),(1,_),(2,_)],[]⟩ _)
 (repeat' first|refine gA ?_|refine gT ?_ ?_<;>intro hv<;>try cases hv;done|fail)
 refine zY (α:=Nat) (fun i=>⟨[(2,.t (.str name)),(4,.box 0 0),(6,.box 1 0),(11,.t (.sl snl scl (l.map Slot.c))),(12,.t (.int .i64 l.length)),(13,.t (.int .i64 i))],[.box [.t (.int .i64 id),.t (.int .i64 tp),.t (.sl fnl fcl (fl.map Val.c))],.box [.t (.int .u8 0),.t (.int .i64 0),.t (.str [])]]⟩) (fun i=>l.length - i)
  (fun i=>i≤l.length∧∀j (hj:j<l.length),j<i→beqL l[j].name name=false) 0 (by kernel_rfl) ⟨Nat.zero_le _,fun j _ hj=>by omega⟩ ?_
 rintro i ⟨hi,hn⟩
 by_cases hi':i<l.length
 ·have hw:=wI64 i (by omega);have he:l[i]?=some l[i]:=List.getElem?_eq_getElem hi';have hd:decide ((i:Int)<l.length)=true:=by simpa using hi'
  cases hb:beqL l[i].name name with
  |true =>
   have hf:=zWQ hi' hb hn;clear hn
   by_cases hj:i<fl.length
   ·have he2:fl[i]?=some fl[i]:=List.getElem?_eq_getElem hj;have hd2:decide ((i:Int)<fl.length)=true:=by simpa using hj
    have hr:atA ⟨tn,⟨snl,scl,l⟩⟩ ⟨id,tp,⟨fnl,fcl,fl⟩⟩ name=(fl[i],true):=by unfold atA;simp only[hf,he2]
    rw[hr];clear hr hf;generalize l[i]=b at *;generalize fl[i]=v at *
    (repeat' first|refine gA ?_|refine gT ?_ ?_<;>intro hv<;>try cases hv;done|fail)
    (refine aK ?_ ?_)
    ·rfl
    rfl
   have he2:fl[i]?=none:=List.getElem?_eq_none (by omega);have hd2:decide ((i:Int)<fl.length)=false:=by simpa using hj
   have hr:atA ⟨tn,⟨snl,scl,l⟩⟩ ⟨id,tp,⟨fnl,fcl,fl⟩⟩ name=(Zero,false):=by unfold atA;simp only[hf,he2]
   rw[hr];clear hr hf;generalize l[i]=b at *
   (repeat' first|refine gA ?_|refine gT ?_ ?_<;>intro hv<;>try cases hv;done|fail)
   (refine aK ?_ ?_)
   ·rfl
   rfl
  |false =>
   have hn':∀j (hj:j<l.length),j<i+1→beqL l[j].name name=false:=fun j hj hji=>by
    rcases Nat.lt_or_ge j i with h|h
    ·exact hn j hj h
    obtain rfl:j=i:=by omega
    exact hb
   clear hn
   (repeat' first|refine gA ?_|refine gT ?_ ?_<;>intro hv<;>try cases hv;done|fail)
   refine zC (i+1) (by omega) ⟨by omega,hn'⟩ (by exact aTd)
 have hd:decide ((i:Int)<l.length)=false:=by simpa using hi'
 have hr:atA ⟨tn,⟨snl,scl,l⟩⟩ ⟨id,tp,⟨fnl,fcl,fl⟩⟩ name=(Zero,false):=by unfold atA;simp only[zT3 fun j hj=>hn j hj (by omega)]
 rw[hr];clear hn hr
 (repeat' first|refine gA ?_|refine gT ?_ ?_<;>intro hv<;>try cases hv;done|fail)
 (refine aK ?_ ?_)
 ·rfl
 rfl
def yAq(k n:Int)(s:List Nat)(k' n':Int)(s':List Nat):binop Tryz.prog .neq 49 (.t (.agg [.int .u8 k,.int .i64 n,.str s])) (.t (.agg [.int .u8 k',.int .i64 n',.str s']))=some (.t (.bool (!decide ((⟨k,n,s⟩:Val)=⟨k',n',s'⟩)))):=by
 show binop Tryz.prog .neq 49 (.t (.agg (Val.c ⟨k,n,s⟩))) (.t (.agg (Val.c ⟨k',n',s'⟩)))=_
 rw[zQS _ _ _ _ zN6,zIJ 98];rfl
def STest.s(x:STest):List Nat×List STst:=(x.slot,x.test.l.map Test.s)
def zKZ(t:Tpl)(f:Fact):∀(l:List (List Nat×List STst)) (s:List Nat×List STst) (out:List Bind),
  xR t f (l++[s]) out=(xR t f l out).bind fun o=>kG t f s.1 s.2 o
 |[],s,out=>by
  simp only[List.nil_append,xR,Option.bind_some];cases kG t f s.1 s.2 out<;>rfl
 |x::l,s,out=>by
  simp only[List.cons_append,xR];cases h:kG t f x.1 x.2 out with
  |none=>rfl
  |some o=>exact zKZ t f l s o
def zK8(t:Tpl)(f:Fact):∀(l r:List (List Nat×List STst)) (out:List Bind),xR t f l out=none→xR t f (l++r) out=none
 |[],r,out,h=>by cases h
 |x::l,r,out,h=>by
  simp only[List.cons_append,xR] at h ⊢;cases hs:kG t f x.1 x.2 out with
  |none=>rfl
  |some o=>rw[hs] at h;exact zK8 t f l r o h
def zQx(t:List Test):varS (t.map Test.s)=zCT t:=by
 match t with
 |[]=>rfl
 |_::_::_=>rfl
 |[x] =>
  simp only[List.map_cons,List.map_nil,varS,zCT,Test.s]
  match x.a.l with
  |[]=>rfl
  |_::_::_=>rfl
  |[n]=>rfl
noncomputable def zCj(ts:List Tpl)(p:Pat)(f:Fact)(vars:List Bind):Option (List Bind) :=
 match ts.findIdx? (fun t=>beqL t.name p.t) with
 |some i=>if f.tp=(i:Int) then (match ts[i]? with|some t=>xR t f (p.slots.l.map STest.s) vars|none=>none) else none
 |none=>none
structure SOK (s:STest):Prop where
 len:s.test.l.length<4294967000
 all:∀x ∈ s.test.l,TOK x
structure PassOK (ts:Sl Tpl) (p:Pat) (f:Fact) (vars:Sl Bind):Prop where
 hts:ts.l.length<9223372036854775808
 htsl:∀t ∈ ts.l,t.slots.l.length<9223372036854775808
 hsl:p.slots.l.length<2000000000
 htests:∀s ∈ p.slots.l,SOK s
 hfv:∀v ∈ f.s.l,VOK v
 hvl:vars.l.length<2000000000
 hvv:∀b ∈ vars.l,VOK b.v
 hvn:vars.nl=true→vars.l=[]
structure SlotOK (t:Tpl) (f:Fact) (x:STest):Prop where
 slots:t.slots.l.length<9223372036854775808
 fval:∀v ∈ f.s.l,VOK v
 x:SOK x
def zJk(a:Bool×Bool×List Bind×Bool):AV:=.tup [.t (.sl a.1 a.2.1 (a.2.2.1.map Bind.c)),.t (.bool a.2.2.2)]
def zFS(o:Option (List Bind))(a:Bool×Bool×List Bind×Bool):Prop:=match o with
 |none=>a=(true,true,[],false)
 |some l=>a.2.2=(l,true)∧(a.1=true→l=[])
def paS(tnl tcl snl scl:Bool)(ts l:List (List Tree))(len:Nat)(f:Fact)(n:Int)(a:Nat×Bool×List Bind):St :=
 ⟨[(0,.t (.sl tnl tcl ts)),(6,.box 0 0),(10,.t (.int .i64 n)),(11,match a.2.1 with|true=>.hs 1 0|false=>.t (.sl true true [])),(34,.t (.sl snl scl l)),(35,.t (.int .i64 len)),(36,.t (.int .i64 a.1))],
  match a.2.1 with|true=>[.box [.t (.int .i64 f.id),.t (.int .i64 f.tp),.t (.sl f.s.nl f.s.cl (f.s.l.map Val.c))],.arr 4 0 false (a.2.2.map Bind.c)]|false=>[.box [.t (.int .i64 f.id),.t (.int .i64 f.tp),.t (.sl f.s.nl f.s.cl (f.s.l.map Val.c))]]⟩
structure PaI (t:Tpl) (f:Fact) (l:List STest) (vars:List Bind) (a:Nat×Bool×List Bind):Prop where
 i:a.1≤l.length
 nil:a.2.1=false→a.2.2=[]
 ps:xR t f ((l.take a.1).map STest.s) vars=some a.2.2
 len:a.2.2.length≤vars.length+a.1
 ok:∀b ∈ a.2.2,VOK b.v
def xbD:=c5 zF zG zQ zE (c5 zD zCS zCL zI (c5 zCR xE zCP uH (c5 yM zCM zBw zBA (c5 zB vV zBz zLJ (c5 zO zL yL zN (c2 zRP zNL))))))
def zM0 (ts:Sl Tpl) (p:Pat) (f:Fact) (vars:Sl Bind) (hl:ts.l.length<9223372036854775808) (h:zCg p.t ts.l<0∨f.tp≠zCg p.t ts.l) :
  Om CC 7 [.t (ts.t Tpl.c),.t (.agg p.c),.t (.agg f.c),.t (vars.t Bind.c)] []=some (.val (zJk (true,true,[],false)),[]):=by
 refine zK zXm rfl ?_;have hc:=zOP ts p.name p.t p.slots.nl p.slots.cl (p.slots.l.map STest.c) p.line p.col hl;obtain⟨tnl,tcl,ts⟩:=ts;obtain⟨pn,pt,⟨snl,scl,l⟩,line,col⟩:=p;obtain⟨fid,ftp,⟨fnl,fcl,fl⟩⟩:=f;obtain⟨vnl,vcl,vars⟩:=vars;dsimp only at h;simp only[Tpl.c,Pat.c,Sl.t,List.map_cons,List.map_nil] at hc;generalize zCg pt ts=n at *;clear hl;unfold zJk;rcases Bool.eq_false_or_eq_true (decide (n<0)) with hb|hb
 ·clear h
  (have F_:=xbD;show W CC 0 96 (zA 7) _ ⟨[(0,_),(1,_),(2,_),(3,_)],[]⟩ _)
  (repeat' first|refine gA ?_|refine gT ?_ ?_<;>intro hv<;>try cases hv;done|fail)
  ((refine aK ?_ ?_))<;>rfl
 have hb':(ftp != n)=true:=by
  rcases h with h|h
  ·simp at hb;omega
  simpa using h
 clear h
 (have F_:=xbD;show W CC 0 96 (zA 7) _ ⟨[(0,_),(1,_),(2,_),(3,_)],[]⟩ _)
 (repeat' first|refine gA ?_|refine gT ?_ ?_<;>intro hv<;>try cases hv;done|fail)
 ((refine aK ?_ ?_))<;>rfl
def xbE:=c5 zF zG zQ zE (c5 zD zCS zCL zI (c5 zCR xE zCP uH (c5 yM zCM zBw zBA (c5 zB vV zBz zLJ (c5 zO zL yL zN (c5 zRP zNL zXq zXK (c3 zNJ zXH zXS)))))))
def zUw (ts:Sl Tpl) (p:Pat) (f:Fact) (vars:Sl Bind) (hp:PassOK ts p f vars) (n:Nat) (t:Tpl) (hn:zCg p.t ts.l=(n:Int)) (ht:ts.l[n]?=some t) (hf:f.tp=(n:Int)) :
  ∃a,Om CC 7 [.t (ts.t Tpl.c),.t (.agg p.c),.t (.agg f.c),.t (vars.t Bind.c)] []=some (.val (zJk a),[])∧zFS (xR t f (p.slots.l.map STest.s) vars.l) a:=by
 refine zJ (P:=zFS (xR t f (p.slots.l.map STest.s) vars.l)) zXm rfl ?_;have hc:=zOP ts p.name p.t p.slots.nl p.slots.cl (p.slots.l.map STest.c) p.line p.col hp.hts;obtain⟨hts,htsl,hsl,htests,hfv,hvl,hvv,hvn⟩:=hp;have hsl1:=htsl t (List.mem_of_getElem? ht);clear htsl;obtain⟨tnl,tcl,ts⟩:=ts;obtain⟨pn,pt,⟨snl,scl,l⟩,line,col⟩:=p;obtain⟨vnl,vcl,vars⟩:=vars;dsimp only at hn ht hsl htests hvl hvv hvn hts hc;rw[hn] at hc;simp only[Sl.t] at hc;have hsl:=Hid.mk hsl;have htests:=Hid.mk htests;have hfv:=Hid.mk hfv;have hvv:=Hid.mk hvv;have hstep:Hid _:=⟨fun i (x:STest) (h:l[i]?=some x) (out:List Bind)=>(show xR t f ((l.take i).map STest.s) vars=some out→xR t f ((l.take (i+1)).map STest.s) vars=kG t f x.slot (x.test.l.map Test.s) out from fun ho=>by
  rw[List.take_add_one,h,List.map_append]
  show xR t f (_++[STest.s x]) vars=_
  rw[zKZ,ho];rfl)⟩
 have hstop:Hid _:=⟨fun i (h:xR t f ((l.take i).map STest.s) vars=none)=>(show xR t f (l.map STest.s) vars=none from by
  have:=zK8 t f _ ((l.drop i).map STest.s) _ h
  rwa [← List.map_append,List.take_append_drop] at this)⟩
 have hat0:=Hid.mk fun name=>yGu t f name hsl1
 have hd0:decide ((n:Int)<0)=false:=by simp
 have hft:(f.tp != (n:Int))=false:=by rw[hf];simp
 clear hn hts hsl1 hf;cases vnl
 focus
  have hcl:=zWo vcl vars (by omega);have hvl:=Hid.mk hvl;clear hvn
  (have F_:=xbE;show W CC 0 96 (zA 7) _ ⟨[(0,_),(1,_),(2,_),(3,_)],[]⟩ _)
  (repeat' first|refine gA ?_|refine gT ?_ ?_<;>intro hv<;>try cases hv;done|fail)
  refine zY (paS tnl tcl snl scl (ts.map Tpl.c) (l.map STest.c) l.length f n) (fun a=>l.length - a.1) (PaI t f l vars) (0,true,vars) (by simp only[paS];exact aTd) ⟨Nat.zero_le _,fun h=>(by cases h),rfl,by simp,hvv.h⟩ ?_;clear hcl
 rotate_left
 focus
  have hcl:=zUv vcl (vars.map Bind.c);have hve:=Hid.mk (hvn rfl);have hvl:=Hid.mk hvl;clear hvn
  (have F_:=xbE;show W CC 0 96 (zA 7) _ ⟨[(0,_),(1,_),(2,_),(3,_)],[]⟩ _)
  (repeat' first|refine gA ?_|refine gT ?_ ?_<;>intro hv<;>try cases hv;done|fail)
  refine zY (paS tnl tcl snl scl (ts.map Tpl.c) (l.map STest.c) l.length f n) (fun a=>l.length - a.1) (PaI t f l vars) (0,false,vars) (by simp only[paS];exact aTd) ⟨Nat.zero_le _,fun _=>hve.h,rfl,by simp,hvv.h⟩ ?_;clear hcl hve
 all_goals
  clear hc hft hd0;rintro⟨i,st,out⟩ ⟨hi,hst,hps,hol,hov⟩;dsimp only at hi hst hps hol hov;obtain⟨s2,hs2⟩:∃s2,Hid (s2=st):=⟨st,⟨rfl⟩⟩;have hst3:Hid (s2=false→out=[]):=⟨by rw[hs2.h];exact hst⟩
  clear hst;have hol:=Hid.mk hol;have hov:=Hid.mk hov
  by_cases hi':i<l.length
  ·have hw:IntKind.i64.wrap ((i:Int)+1)=((i+1:Nat):Int):=by
    have:=hsl.h;rw[wrap64]<;>omega
   have he:l[i]?=some l[i]:=List.getElem?_eq_getElem hi';have hd:decide ((i:Int)<l.length)=true:=by simpa using hi'
   have hmem:=List.getElem_mem hi';generalize l[i]=x at he hmem;have hlen:out.length+1<4000000000:=by
    have h1:=hsl.h;have h2:=hvl.h;have h3:=hol.h;omega
   have hx:=htests.h x hmem;have hi2:Hid (i+1≤l.length):=⟨hi'⟩
   have hAv:=Hid.mk (zRJ t f x.slot hfv.h);have hat:=hat0.h x.slot;have hpt:=zWD x.test.nl x.test.cl x.test.l (atA t f x.slot).1 (!st) (!st) out hx.len hx.all hAv.h hov.h (by omega);have hvar:=zS0 x.test.nl x.test.cl x.test.l;have hbd:=zXc (!st) (!st) out (zCT x.test.l).1 (by omega);have hstp:=hstep.h i x he out hps;have hno:=hstop.h (i+1);rw[hstp] at hno;unfold kG at hstp hno;rw[zQx] at hstp hno;have hsm:decide ((out.map Bind.c).length+1<4294967296)=true:=by rw[List.length_map];simp only[decide_eq_true_eq];omega
   have hle:lens 4 (out.map Bind.c)=true:=vQ Bind.c 4 (fun a=>rfl) out;obtain⟨slot,⟨xnl,xcl,xl⟩,xline,xcol⟩:=x;dsimp only at hat hpt hvar hbd hstp hno hAv;clear hmem hx hlen hps hi hi';generalize atA t f slot=A at *;generalize zCT xl=V at *;obtain⟨Vn,Va⟩:=V;dsimp only at hvar hbd hstp hno;generalize qI Vn out=B at *;generalize zEV (uT (xl.map Test.s) A.1 out)=pv at *;obtain⟨⟨Ak,An,As⟩,Ab⟩:=A;obtain⟨⟨Bk,Bn,Bs⟩,Bb⟩:=B;dsimp only at hat hpt hvar hbd hstp hno hAv;have hne:=yAq Bk Bn Bs Ak An As;generalize heqd:decide ((⟨Bk,Bn,Bs⟩:Val)=⟨Ak,An,As⟩)=eqd at hne;have heqd:=Hid.mk heqd;have hstp:=Hid.mk hstp;have hno:=Hid.mk hno;generalize hE:out.map Bind.c=E at *;have hE:=Hid.mk hE;simp only[Tpl.c,Fact.c,Sl.t] at hat;cases st
   focus
    have h0:E=[]:=by rw[← hE.h,hst3.h hs2.h];rfl
    subst h0;clear hsm hle;simp only[Bool.not_false] at hpt hbd
   rotate_left
   focus
    simp only[Bool.not_true] at hpt hbd
   all_goals
    simp only[paS,hE.h];cases Ab with
    |false =>
     have hno:=Hid.mk (hno.h (by rw[if_pos rfl]));clear hstp
     (repeat' first|refine gA ?_|refine gT ?_ ?_<;>intro hv<;>try cases hv;done|fail)
     (refine aJ ?_)
     exact⟨(true,true,[],false),⟨rfl,rfl⟩,by unfold zFS;rw[hno.h]⟩
    |true =>
     cases Va with
     |true =>
      cases Bb with
      |false =>
       have hyes:=Hid.mk (hstp.h.trans (by rw[if_neg (by decide),if_pos rfl,if_pos rfl]));clear hno hstp
       (repeat' first|refine gA ?_|refine gT ?_ ?_<;>intro hv<;>try cases hv;done|fail)
       exact zC (i+1,true,out++[⟨Vn,⟨Ak,An,As⟩⟩]) (by have:=hi2.h;dsimp only;omega) ⟨hi2.h,fun h=>(by cases h),hyes.h,by have:=hol.h;simp;omega,fun b hb=>(List.mem_append.1 hb).elim (hov.h b) (fun hb=>by rw[List.mem_singleton.1 hb];exact hAv.h)⟩ (by simp only[paS,List.map_append,hE.h];exact aTd)
      |true =>
       cases eqd with
       |true =>
        have hyes:=Hid.mk (hstp.h.trans (by rw[if_neg (by decide),if_pos rfl,if_neg (by decide),if_pos (of_decide_eq_true heqd.h)]));clear hno hstp
        (repeat' first|refine gA ?_|refine gT ?_ ?_<;>intro hv<;>try cases hv;done|fail)
        exact zC (i+1,s2,out) (by have:=hi2.h;dsimp only;omega) ⟨hi2.h,hst3.h,hyes.h,by have:=hol.h;dsimp only;omega,hov.h⟩ (by simp only[paS,hs2.h,hE.h];exact aTd)
       |false =>
        have hno:=Hid.mk (hno.h (by rw[if_neg (by decide),if_pos rfl,if_neg (by decide),if_neg (of_decide_eq_false heqd.h)]));clear hstp
        (repeat' first|refine gA ?_|refine gT ?_ ?_<;>intro hv<;>try cases hv;done|fail)
        (refine aJ ?_)
        exact⟨(true,true,[],false),⟨rfl,rfl⟩,by unfold zFS;rw[hno.h]⟩
     |false =>
      cases pv with
      |true =>
       have hyes:=Hid.mk (hstp.h.trans (by rw[if_neg (by decide),if_neg (by decide),if_pos rfl]));clear hno hstp
       (repeat' first|refine gA ?_|refine gT ?_ ?_<;>intro hv<;>try cases hv;done|fail)
       exact zC (i+1,s2,out) (by have:=hi2.h;dsimp only;omega) ⟨hi2.h,hst3.h,hyes.h,by have:=hol.h;dsimp only;omega,hov.h⟩ (by simp only[paS,hs2.h,hE.h];exact aTd)
      |false =>
       have hno:=Hid.mk (hno.h (by rw[if_neg (by decide),if_neg (by decide),if_neg (by decide)]));clear hstp
       (repeat' first|refine gA ?_|refine gT ?_ ?_<;>intro hv<;>try cases hv;done|fail)
       (refine aJ ?_)
       exact⟨(true,true,[],false),⟨rfl,rfl⟩,by unfold zFS;rw[hno.h]⟩
  have hd:decide ((i:Int)<l.length)=false:=by simpa using hi'
  have hil:l.take i=l:=List.take_of_length_le (by omega);rw[hil] at hps;have hps:=Hid.mk hps;clear hil hi hi' ht;cases st with
  |true =>
   simp only[paS]
   (repeat' first|refine gA ?_|refine gT ?_ ?_<;>intro hv<;>try cases hv;done|fail)
   (refine aJ ?_)
   exact⟨(false,false,out,true),⟨rfl,rfl⟩,by unfold zFS;rw[hps.h];exact⟨rfl,fun h=>by cases h⟩⟩
  |false =>
   obtain rfl:=hst3.h hs2.h;simp only[paS]
   (repeat' first|refine gA ?_|refine gT ?_ ?_<;>intro hv<;>try cases hv;done|fail)
   (refine aJ ?_)
   exact⟨(true,true,[],true),⟨rfl,rfl⟩,by unfold zFS;rw[hps.h];exact⟨rfl,fun _=>rfl⟩⟩
def zII (ts:Sl Tpl) (p:Pat) (f:Fact) (vars:Sl Bind) (hp:PassOK ts p f vars) :
  ∃a,Om CC 7 [.t (ts.t Tpl.c),.t (.agg p.c),.t (.agg f.c),.t (vars.t Bind.c)] []=some (.val (zJk a),[])∧zFS (zCj ts.l p f vars.l) a:=by
 cases hf:ts.l.findIdx? (fun t=>beqL t.name p.t) with
 |none =>
  have hn:zCg p.t ts.l=-1:=by unfold zCg;rw[hf]
  refine⟨_,zM0 ts p f vars hp.hts (.inl (by omega)),?_⟩;unfold zCj;rw[hf];rfl
 |some i =>
  have hn:zCg p.t ts.l=(i:Int):=by unfold zCg;rw[hf]
  by_cases h:f.tp=(i:Int)
  ·have hi:i<ts.l.length:=by
    rw[List.findIdx?_eq_some_iff_getElem] at hf;exact hf.1
   have ht:ts.l[i]?=some ts.l[i]:=List.getElem?_eq_getElem hi;obtain⟨a,h1,h2⟩:=zUw ts p f vars hp i ts.l[i] hn ht h;refine⟨a,h1,?_⟩;unfold zCj;rw[hf];simp only[h,if_true,ht];exact h2
  refine⟨_,zM0 ts p f vars hp.hts (.inr (by rw[hn];exact h)),?_⟩;unfold zCj;rw[hf];simp only[h,if_false];rfl
def zSZ{t:Tpl}{f:Fact}{slot:List Nat}{ts:List STst}{out o:List Bind}(h:kG t f slot ts out=some o):o.length≤out.length+1:=by
 unfold kG at h;split at h
 ·cases h
 split at h
 ·split at h
  ·cases h;simp
  split at h
  ·cases h;omega
  cases h
 split at h
 ·cases h;omega
 cases h
def zMX{t:Tpl}{f:Fact}:∀ {ss:List (List Nat×List STst)} {out o:List Bind},xR t f ss out=some o→o.length≤out.length+ss.length
 |[],out,o,h=>by cases h;simp
 |s::r,out,o,h=>by
  simp only[xR] at h;cases hs:kG t f s.1 s.2 out with
  |none=>rw[hs] at h;cases h
  |some x =>
   rw[hs] at h;have h1:=zSZ hs;have h2:=zMX h;simp only[List.length_cons];omega
def zKT {ts:List Tpl} {p:Pat} {f:Fact} {vars a:List Bind} (h:zCj ts p f vars=some a) :
  ∃t:Tpl,xR t f (p.slots.l.map STest.s) vars=some a∧∀(p2:Pat) (v2:List Bind),p2.t=p.t→zCj ts p2 f v2=xR t f (p2.slots.l.map STest.s) v2:=by
 unfold zCj at h;split at h
 ·rename_i i hi;split at h
  ·rename_i hf;split at h
   ·rename_i t ht;exact⟨t,h,fun p2 v2 h2=>by unfold zCj;rw[h2,hi];dsimp only;rw[if_pos hf,ht]⟩
   cases h
  cases h
 cases h
def yBt{x:Test}(h:TOK x):NVt x.s:=by
 refine⟨fun n hn=>?_,fun n hn=>?_⟩
 ·obtain⟨m,hm,rfl⟩:=List.mem_map.1 hn;exact⟨h.a.val m hm,by have:=h.a.kids m hm;show m.kids.l.length<_;omega⟩
 obtain⟨m,hm,rfl⟩:=List.mem_map.1 hn;exact⟨h.b.val m hm,by have:=h.b.kids m hm;show m.kids.l.length<_;omega⟩
def zPM {ts:Sl Tpl} {p:Pat} {f:Fact} {vars:Sl Bind} {a:List Bind} (hp:PassOK ts p f vars) (h:zCj ts.l p f vars.l=some a) :
  zCj ts.l p f a=some a∧(∃e,a=vars.l++e∧∀b ∈ a,VOK b.v)∧a.length≤vars.l.length+p.slots.l.length:=by
 obtain⟨t,h1,h2⟩:=zKT h;obtain⟨e,rfl,he⟩:=zHM hp.hfv _ h1;have h3:=zJu hp.hfv _ [] (fun s hs x hx=>by
  obtain⟨y,hy,rfl⟩:=List.mem_map.1 hs;obtain⟨z,hz,rfl⟩:=List.mem_map.1 hx;exact yBt ((hp.htests y hy).all z hz)) hp.hvv (fun b hb=>by cases hb) h1
 rw[List.append_nil] at h3;refine⟨(h2 p _ rfl).trans h3,⟨e,rfl,fun b hb=>(List.mem_append.1 hb).elim (hp.hvv b) (he b)⟩,?_⟩;have:=zMX h1
 simpa using this
def Pat.less(p:Pat)(cl:Bool)(i:Nat):Pat:={ p with slots:=⟨false,cl,p.slots.l.take i++p.slots.l.drop (i+1)⟩ }
def zRh {ts:List Tpl} {p:Pat} {f:Fact} {vars a:List Bind} {i:Nat} {s:STest} (cl:Bool) (hi:p.slots.l[i]?=some s) (hs:(zCT s.test.l).2=false) (h:zCj ts p f vars=some a) :
  zCj ts (p.less cl i) f vars=some a:=by
 obtain⟨t,h1,h2⟩:=zKT h;rw[h2 (p.less cl i) vars rfl];obtain⟨hl,rfl⟩:=List.getElem?_eq_some_iff.1 hi;have e:p.slots.l=p.slots.l.take i++p.slots.l[i]::p.slots.l.drop (i+1):=by
  rw[← List.drop_eq_getElem_cons hl,List.take_append_drop]
 rw[e,List.map_append,List.map_cons] at h1;have h3:=zRp (by show (varS (p.slots.l[i].test.l.map Test.s)).2=false;rw[zQx];exact hs) h1
 show xR t f ((p.slots.l.take i++p.slots.l.drop (i+1)).map STest.s) vars=_
 rw[List.map_append];exact h3
structure MoreOK (ts:Sl Tpl) (p:Pat) (f:Fact) (vars:Sl Bind):Prop where
 hp:PassOK ts p f vars
 hv:vars.l.length≤100000000
 hs:p.slots.l.length≤100000000
 hf:f.s.l.length<9223372036854775808
 hx:∀s ∈ p.slots.l,∀x ∈ s.test.l,PTest x
def zVT{p:Pat}(h:∀s ∈ p.slots.l,SOK s):∀s ∈ p.slots.l,s.test.l.length<9223372036854775808∧∀x ∈ s.test.l,x.a.l.length<9223372036854775808∧x.b.l.length<9223372036854775808:=fun s hs=>by
 have h1:=h s hs;exact⟨by have:=h1.len;omega,fun x hx=>⟨by have:=(h1.all x hx).a.len;omega,by have:=(h1.all x hx).b.len;omega⟩⟩
def yDY(k:Int){n:Nat}(h:0<n):∃i:Nat,i<n∧(IntKind.u64.wrap k).tmod (n:Int)=(i:Int):=by
 have h1:0≤IntKind.u64.wrap k:=by rw[zBC];omega
 have h2:0≤(IntKind.u64.wrap k).tmod n:=Int.tmod_nonneg _ h1;have h3:(IntKind.u64.wrap k).tmod n<n:=Int.tmod_lt_of_pos _ (by omega);exact⟨((IntKind.u64.wrap k).tmod n).toNat,by omega,by omega⟩
def zYP{ts:Sl Tpl}{p:Pat}{f:Fact}{vars:Sl Bind}(hp:PassOK ts p f vars)(cl:Bool)(i:Nat):PassOK ts (p.less cl i) f vars:=by
 have hm:∀s,s ∈ p.slots.l.take i++p.slots.l.drop (i+1)→s ∈ p.slots.l:=fun s hs=>(List.mem_append.1 hs).elim List.mem_of_mem_take List.mem_of_mem_drop
 refine⟨hp.hts,hp.htsl,?_,fun s hs=>hp.htests s (hm s hs),hp.hfv,hp.hvl,hp.hvv,hp.hvn⟩
 show (p.slots.l.take i++p.slots.l.drop (i+1)).length<_
 have:=hp.hsl;simp only[List.length_append,List.length_take,List.length_drop];omega
def zQp {α:Type} (f:α→List Tree) {t e:TypeId} {n:Nat} (ht:und Tryz.prog t=some (.slice e)) (hs:sizeOf? Tryz.prog e=some n) (hf:∀a,(f a).length=n) (a b:Bool) (l:List α) {i:Nat} (h:i≤l.length) (g:Look) :
  slice Tryz.prog g t (.t (.sl a b (l.map f))) none (some (i:Int)) none=some (.t (.sl a (b&&(i:Int)==((l.map f).length:Int)) ((l.take i).map f))):=by
 have hh:kP n (l.map f)=true:=by cases l with|nil=>rfl|cons x r=>show Nat.beq (f x).length n=true;rw[hf];simp
 simp only[slice,ht,hs,Option.getD_none,Option.getD_some];rw[if_pos ⟨by omega,by omega,by rw[List.length_map];omega,hh⟩];simp [List.map_take]
def yBb {α:Type} (f:α→List Tree) {t e:TypeId} {n:Nat} (ht:und Tryz.prog t=some (.slice e)) (hs:sizeOf? Tryz.prog e=some n) (hf:∀a,(f a).length=n) (a b:Bool) (l:List α) {i:Nat} (h:i≤l.length) (g:Look) :
  slice Tryz.prog g t (.t (.sl a b (l.map f))) (some (i:Int)) none none=some (.t (.sl a b ((l.drop i).map f))):=by
 have hh:kP n (l.map f)=true:=by cases l with|nil=>rfl|cons x r=>show Nat.beq (f x).length n=true;rw[hf];simp
 simp only[slice,ht,hs,Option.getD_none,Option.getD_some];rw[if_pos ⟨by omega,by rw[List.length_map];omega,by omega,hh⟩];have e:List.take l.length (l.map f)=l.map f:=List.take_of_length_le (by simp);simp [List.map_drop,e]
def xbF:=c5 zF zG zQ zE (c5 zD zCS zCL zI (c5 zCR xE zCP uH (c5 kJ yM zCM zBw (c5 zBA zB vV zBz (c5 zO zL yL zN (c5 zMi zL2 zMa zMb (c3 zMo zMd zMw)))))))
def zTg (ts:Sl Tpl) (p:Pat) (f:Fact) (vars:Sl Bind) (k:Int) (hw:MoreOK ts p f vars) :
  Om CC 3 [.t (ts.t Tpl.c),.t (.agg p.c),.t (.agg f.c),.t (vars.t Bind.c),.t (.int .i64 k)] []=some (.val (.t (.bool true)),[]):=by
 refine zK yHn rfl ?_;obtain⟨b1,g1,-⟩:=zWy ts f vars hw.hp.hts hw.hf (by have:=hw.hv;omega);obtain⟨b2,g2,-⟩:=zWH p (by have:=hw.hs;omega) (zVT hw.hp.htests);have hk:=zZs;obtain⟨⟨anl,acl,a,is⟩,ha,hae⟩:=zII ts p f vars hw.hp;unfold zJk at ha;simp only[Tpl.c,Pat.c,Fact.c,Sl.t] at g1 g2 ha ⊢;generalize hTL:ts.l.map Tpl.c=TL at *;generalize hFL:f.s.l.map Val.c=FL at *;cases b1 with
 |true =>
  clear g2 ha hae hw hTL hFL
  (have F_:=xbF;show W CC 0 129 (zA 3) _ ⟨[(0,_),(1,_),(2,_),(3,_),(4,_)],[]⟩ _)
  (repeat' first|refine gA ?_|refine gT ?_ ?_<;>intro hv<;>try cases hv;done|fail)
  all_goals (refine aK ?_ ?_)<;>(rfl)
 |false =>
 cases b2 with
 |true =>
  clear ha hae hw hTL hFL
  (have F_:=xbF;show W CC 0 129 (zA 3) _ ⟨[(0,_),(1,_),(2,_),(3,_),(4,_)],[]⟩ _)
  (repeat' first|refine gA ?_|refine gT ?_ ?_<;>intro hv<;>try cases hv;done|fail)
  all_goals (refine aK ?_ ?_)<;>(rfl)
 |false =>
 cases hR:zCj ts.l p f vars.l with
 |none =>
  rw[hR] at hae;cases hae;clear hw hR hTL hFL
  (have F_:=xbF;show W CC 0 129 (zA 3) _ ⟨[(0,_),(1,_),(2,_),(3,_),(4,_)],[]⟩ _)
  (repeat' first|refine gA ?_|refine gT ?_ ?_<;>intro hv<;>try cases hv;done|fail)
  all_goals (refine aK ?_ ?_)<;>(rfl)
 |some a1 =>
 rw[hR] at hae;obtain⟨h1,h2⟩:=hae;cases h1;dsimp only at h2;obtain⟨h3,⟨e,he,hav⟩,hal⟩:=zPM hw.hp hR;have hva:vars.l.length≤a.length:=by rw[he];simp
 have hta:a.take vars.l.length=vars.l:=by rw[he];simp
 have hpa:PassOK ts p f ⟨anl,acl,a⟩:=⟨hw.hp.hts,hw.hp.htsl,hw.hp.hsl,hw.hp.htests,hw.hp.hfv,by have:=hw.hv;have:=hw.hs;show a.length<_;omega,hav,h2⟩
 obtain⟨⟨bnl,bcl,bl,bis⟩,hb,hbe⟩:=zII ts p f ⟨anl,acl,a⟩ hpa;dsimp only at hbe;rw[h3] at hbe;obtain⟨h4,-⟩:=hbe;cases h4;have hle:a.length<9223372036854775808:=by have:=hw.hv;have:=hw.hs;omega
 have s1:=zIv a anl acl bnl bcl hle;have hvl:(vars.l.map Bind.c).length=vars.l.length:=List.length_map ..;have hsl:∀g,slice Tryz.prog g 31 (.t (.sl anl acl (a.map Bind.c))) none (some ((vars.l.map Bind.c).length:Int)) none=some (.t (.sl anl (acl&&((vars.l.map Bind.c).length:Int)==((a.map Bind.c).length:Int)) (vars.l.map Bind.c))):=fun g=>by
  have h:=zQp Bind.c (t:=31) (e:=51) (n:=4) (by kernel_rfl) (by kernel_rfl) (fun _=>rfl) anl acl a hva g;rw[hta] at h;rw[hvl];exact h
 have s2:=zIv vars.l anl (acl&&((vars.l.map Bind.c).length:Int)==((a.map Bind.c).length:Int)) vars.nl vars.cl (by omega);have d1:decide (((a.map Bind.c).length:Int)<((vars.l.map Bind.c).length:Int))=false:=by simp;omega
 generalize (acl&&((vars.l.map Bind.c).length:Int)==((a.map Bind.c).length:Int))=cl2 at *;unfold zJk at hb;simp only[Tpl.c,Pat.c,Fact.c,Sl.t,hTL,hFL] at hb;rcases Nat.eq_zero_or_pos p.slots.l.length with h0|h0
 ·have hn:p.slots.l=[]:=List.length_eq_zero_iff.1 h0;clear hw hR h3 he hav hal hva hta hpa hle h0 h2 hTL hFL hvl;simp only[hn,List.map_nil] at g2 ha hb ⊢;clear hn;generalize a.map Bind.c=a at *;generalize vars.l.map Bind.c=vl at *
  (have F_:=xbF;show W CC 0 129 (zA 3) _ ⟨[(0,_),(1,_),(2,_),(3,_),(4,_)],[]⟩ _)
  (repeat' first|refine gA ?_|refine gT ?_ ?_<;>intro hv<;>try cases hv;done|fail)
  all_goals (refine aK ?_ ?_)<;>(rfl)
 obtain⟨i,hi,hmod⟩:=yDY k h0;obtain⟨x,hx⟩:∃x,p.slots.l[i]?=some x:=⟨_,List.getElem?_eq_getElem hi⟩;have hxm:=List.mem_of_getElem? hx;obtain⟨r,hr,hrv⟩:=zPG x.test.nl x.test.cl x.test.l (hw.hx x hxm);have hc:r=true→∃cnl ccl,Om CC 7 [.t (ts.t Tpl.c),.t (.agg (p.less false i).c),.t (.agg f.c),.t (vars.t Bind.c)] []=some (.val (.tup [.t (.sl cnl ccl (a.map Bind.c)),.t (.bool true)]),[]):=fun h=>by
  obtain⟨⟨cnl,ccl,cl3,cis⟩,hc,hce⟩:=zII ts (p.less false i) f vars (zYP hw.hp false i);rw[zRh false hx (hrv h) hR] at hce;obtain⟨h5,-⟩:=hce;cases h5;exact⟨cnl,ccl,hc⟩
 have s3:=fun c d=>zIv a anl acl c d hle
 have hA:=fun g=>zQp STest.c (t:=23) (e:=43) (n:=4) (by kernel_rfl) (by kernel_rfl) (fun _=>rfl) p.slots.nl p.slots.cl p.slots.l (i:=i) (Nat.le_of_lt hi) g
 have hB:=fun g=>yBb STest.c (t:=23) (e:=43) (n:=4) (by kernel_rfl) (by kernel_rfl) (fun _=>rfl) p.slots.nl p.slots.cl p.slots.l (i:=i+1) hi g
 have eA:lens 4 ((p.slots.l.take i).map STest.c)=true:=vQ STest.c 4 (fun a=>rfl) _;have eB:lens 4 ((p.slots.l.drop (i+1)).map STest.c)=true:=vQ STest.c 4 (fun a=>rfl) _;have lA:((p.slots.l.take i).map STest.c).length≤100000000:=by have:=hw.hs;simp only[List.length_map,List.length_take];omega
 have lB:((p.slots.l.drop (i+1)).map STest.c).length≤100000000:=by have:=hw.hs;simp only[List.length_map,List.length_drop];omega
 have hL0:(((p.slots.l.map STest.c).length:Int)==0)=false:=by rw[beq_eq_false_iff_ne,List.length_map];omega
 have hu1:IntKind.u64.wrap ((p.slots.l.map STest.c).length:Int)=((p.slots.l.map STest.c).length:Int):=by have:=hw.hs;rw[zBC,List.length_map];omega
 have hrem:binop Tryz.prog .rem 38 (.t (.int .u64 (IntKind.u64.wrap k))) (.t (.int .u64 ((p.slots.l.map STest.c).length:Int)))=some (.t (.int .u64 (i:Int))):=by
  rw[zMn _ _ _ _ _ (by rw[List.length_map];omega),List.length_map,hmod]
 have hi1:IntKind.i64.wrap (i:Int)=(i:Int):=by have:=hw.hs;rw[wrap64]<;>omega
 have hi2:=wI64 i (by have:=hw.hs;omega);have hx0:(p.slots.l.map STest.c)[i]?=some [.str x.slot,.sl x.test.nl x.test.cl (x.test.l.map Test.c),.int .i64 x.line,.int .i64 x.col]:=by rw[List.getElem?_map,hx];rfl
 have hll:(((p.slots.l.map STest.c).length:Nat):Int)=(p.slots.l.length:Int):=by simp
 simp only[Pat.less,Tpl.c,Pat.c,Fact.c,Sl.t,hTL,hFL,List.map_append] at hc;generalize (p.slots.cl&&(i:Int)==((p.slots.l.map STest.c).length:Int))=cl4 at *;generalize (p.slots.l.take i).map STest.c=A at *;generalize (p.slots.l.drop (i+1)).map STest.c=B at *;generalize p.slots.l.map STest.c=L at *;generalize x.test.l.map Test.c=X at *;generalize a.map Bind.c=a at *;generalize vars.l.map Bind.c=vl at *;have hc:=Hid.mk hc;have lA:=Hid.mk lA;have lB:=Hid.mk lB;clear hw hR h3 he hav hal hva hta hpa hle h0 h2 hTL hFL hvl hmod hx hxm hrv hll hi;cases r with
 |false =>
  clear hc;rcases A with _|⟨a0,A⟩<;>rcases B with _|⟨b0,B⟩
  rotate_left
  have q1:decide (B.length+1<4294967296)=true:=by have:=lB.h;simp at this ⊢;omega
  rotate_left
  have q1:decide (A.length+1<4294967296)=true:=by have:=lA.h;simp at this ⊢;omega
  rotate_left
  have q1:decide (A.length+1<4294967296)=true:=by have:=lA.h;simp at this ⊢;omega
  have q2:decide (A.length+1+(B.length+1)<4294967296)=true:=by have q3:=lA.h;have q4:=lB.h;simp at q3 q4 ⊢;omega
  all_goals clear lA lB<;>simp only[lens,List.all_cons] at eA eB
  all_goals
   clear s3
   (have F_:=xbF;show W CC 0 129 (zA 3) _ ⟨[(0,_),(1,_),(2,_),(3,_),(4,_)],[]⟩ _)
   (repeat' first|refine gA ?_|refine gT ?_ ?_<;>intro hv<;>try cases hv;done|fail)
   (refine aK ?_ ?_)<;>rfl
 |true =>
  obtain⟨cnl,ccl,hc⟩:=hc.h rfl;have s3:=s3 cnl ccl;rcases A with _|⟨a0,A⟩<;>rcases B with _|⟨b0,B⟩
  rotate_left
  have q1:decide (B.length+1<4294967296)=true:=by have:=lB.h;simp at this ⊢;omega
  rotate_left
  have q1:decide (A.length+1<4294967296)=true:=by have:=lA.h;simp at this ⊢;omega
  rotate_left
  have q1:decide (A.length+1<4294967296)=true:=by have:=lA.h;simp at this ⊢;omega
  have q2:decide (A.length+1+(B.length+1)<4294967296)=true:=by have q3:=lA.h;have q4:=lB.h;simp at q3 q4 ⊢;omega
  all_goals clear lA lB<;>simp only[lens,List.all_cons] at eA eB
  all_goals
   simp only[List.nil_append,List.append_nil,List.cons_append] at hc
   (have F_:=xbF;show W CC 0 129 (zA 3) _ ⟨[(0,_),(1,_),(2,_),(3,_),(4,_)],[]⟩ _)
   (repeat' first|refine gA ?_|refine gT ?_ ?_<;>intro hv<;>try cases hv;done|fail)
   (refine aK ?_ ?_)<;>rfl
end Go.Ab
