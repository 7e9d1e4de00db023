/- Lemmas. -/
import Derived.Test.YtchgjnkleakhoaaGreatDoorG02
import Derived.Test.YtchgjnkleakhoaaGreatDoorRows
set_option maxRecDepth 1000000
set_option maxHeartbeats 40000000
set_option linter.all false
namespace Go.Ab
open Go.ChangeShapes Go.WideShapes
section
variable {H:Type} {enc:TypeId×Value→H} {P:Program} {w:World}
theorem ct_step{a b:List Tree}{cs:List Value}{o n:Nat}(h1:CT w a ((cs.drop o).take n))(h2:CT w b (cs.drop (o+n))):CT w (a++b) (cs.drop o):=by
 have e:cs.drop o=(cs.drop o).take n++cs.drop (o+n):=by
  rw[← List.drop_drop,List.take_append_drop]
 rw[e];exact h1.append h2
theorem ct_end{cs:List Value}{o:Nat}(h:cs.length=o):CT w [] (cs.drop o):=by
 rw[List.drop_of_length_le (by omega)];exact .nil
def Rd(enc:TypeId×Value→H)(P:Program)(w:World)(t:TypeId)(cs:List Value):Prop:=∃n x,DataW.trod enc P w 0 (fun _=>true) true n t cs=some x
def Dec(enc:TypeId×Value→H)(P:Program)(w:World){α:Type}(t:TypeId)(f:α→List Tree)(ok:α→Prop):Prop :=
 ∀cs,Rd enc P w t cs→∃a,CT w (f a) cs∧ok a
theorem dec_int{t:TypeId}{k:IntKind}(ht:P.underlying t=some (.int k)):Dec enc P w t (fun n:Int=>[.int k n]) (fun n=>(Lit.int k n).wf=true):=by
 rintro cs ⟨n,x,h⟩;cases n with
 |zero=>simp [DataW.trod] at h
 |succ n =>
  unfold DataW.trod at h;rw[ht] at h;split at h<;>simp_all
  obtain⟨⟨rfl,h1⟩,_⟩:=h;exact⟨_,.one (.int _ _) rfl,h1⟩
theorem dec_bool{t:TypeId}(ht:P.underlying t=some .bool):Dec enc P w t (fun b:Bool=>[.bool b]) (fun _=>True):=by
 rintro cs ⟨n,x,h⟩;cases n with
 |zero=>simp [DataW.trod] at h
 |succ n =>
  unfold DataW.trod at h;rw[ht] at h;split at h<;>first|(exfalso;simp_all;done)|skip
  exact⟨_,.one (.bool _) rfl,trivial⟩
theorem cells_get{base:Nat}{a:Addr}{n:Nat}{cs:List Value}(h:w.cells? base a n=some cs):cs.length=n∧∀j,j<n→w.cell? (a.add j)=cs[j]?:=by
 unfold World.cells? at h;split at h
 ·refine⟨by have:=mapM_some_length h;simpa using this,fun j hj=>?_⟩;exact mapM_some_get h j j (by simp [hj])
 cases h
theorem spot_none{a:Addr}{v:Value}(h:w.cell? a=some v):a=⟨a.block,a.off,none⟩:=by
 unfold World.cell? at h;split at h
 ·split at h
  ·cases h
  rename_i hs;obtain⟨b,o,s⟩:=a;cases s with
  |none=>rfl
  |some x=>simp at hs
 cases h
end
end Go.Ab
namespace Go.Ab
open Go.ChangeShapes Go.WideShapes
open Go.Proofs.YtchgjnkleakhoaaGreatDoor.Rows (uptoBulk uptoBulkAll)
section
variable {H:Type} {enc:TypeId×Value→H} {P:Program} {w:World} {N:Nat}
theorem uone_le(d:DataW H):1≤uptoBulk d:=by
 cases d with
 |lit l=>cases l<;>simp [uptoBulk]
 |_=>simp [uptoBulk]
theorem umem_le{d:DataW H}:∀ {l:List (DataW H)},d ∈ l→uptoBulk d≤uptoBulkAll l
 |x::r,h=>by
  simp only[uptoBulkAll];rcases List.mem_cons.1 h with rfl|h
  ·omega
  have:=umem_le h;omega
theorem ulen_le:∀l:List (DataW H),l.length≤uptoBulkAll l
 |[]=>by simp [uptoBulkAll]
 |x::r=>by have:=uone_le x;have:=ulen_le r;simp only[uptoBulkAll,List.length_cons];omega
def uRd(enc:TypeId×Value→H)(P:Program)(w:World)(N:Nat)(t:TypeId)(cs:List Value):Prop:=∃n d ps,DataW.trod enc P w 0 (fun _=>true) true n t cs=some (d,ps)∧uptoBulk d≤N
def uDec(enc:TypeId×Value→H)(P:Program)(w:World)(N:Nat){α:Type}(t:TypeId)(f:α→List Tree)(ok:α→Prop):Prop :=
 ∀cs,uRd enc P w N t cs→∃a,CT w (f a) cs∧ok a
theorem udec_int{t:TypeId}{k:IntKind}(ht:P.underlying t=some (.int k)):uDec enc P w N t (fun n:Int=>[.int k n]) (fun n=>(Lit.int k n).wf=true):=by
 rintro cs ⟨n,d,ps,h,_⟩;exact Ab.dec_int ht cs ⟨n,_,h⟩
theorem udec_bool{t:TypeId}(ht:P.underlying t=some .bool):uDec enc P w N t (fun b:Bool=>[.bool b]) (fun _=>True):=by
 rintro cs ⟨n,d,ps,h,_⟩;exact Ab.dec_bool ht cs ⟨n,_,h⟩
def uStrOK(N:Nat)(s:List Nat):Prop:=s.length<N∧∀b ∈ s,b<256
theorem udec_str{t:TypeId}(ht:P.underlying t=some .string):uDec enc P w N t (fun s:List Nat=>[.str s]) (uStrOK N):=by
 rintro cs ⟨n,d,ps,h,hb⟩;cases n with
 |zero=>simp [DataW.trod] at h
 |succ n =>
  unfold DataW.trod at h;rw[ht] at h;split at h<;>simp_all
  obtain⟨h1,h2,_⟩:=h;subst h2;rename_i s _;refine⟨s.data.toList.map UInt8.toNat,.one (TR.bytes _ _) rfl,?_,fun b hb=>?_⟩
  ·simp only[uptoBulk] at hb;simp only[List.length_map];omega
  obtain⟨c,_,rfl⟩:=List.mem_map.1 hb;exact c.toNat_lt
structure uSlOK (N:Nat) {α:Type} (ok:α→Prop) (s:Sl α):Prop where
 all:∀a ∈ s.l,ok a
 len:s.l.length<N
 nl:s.nl=true→s.l=[]
theorem udec_slice {α:Type} {t e:TypeId} {f:α→List Tree} {ok:α→Prop} {s:Nat} (ht:P.underlying t=some (.slice e)) (hc:P.cellsOf e=s) (hs:0<s) (hf:∀a,(f a).length=s)
  (D:uDec enc P w N e f ok):uDec enc P w N t (fun x:Sl α=>[x.t f]) (uSlOK N ok):=by
 rintro cs ⟨n,d,ps,h,hb⟩;rcases Deep.open_slice ht h with ⟨rfl,hx⟩|⟨a,len,cap,m,n',D',Pl,rfl,_,hle,hcap,hm,hx,hel⟩
 ·refine⟨⟨true,true,[]⟩,.one ?_ rfl,⟨fun a ha=>(by simp at ha),by have:=uone_le d;simp;omega,fun _=>rfl⟩⟩;exact TR.sl true true [] none 0 0 (fun _ _=>default) (fun _=>⟨rfl,rfl,rfl⟩) (fun h=>by cases h) (fun e he=>by simp at he) (fun i j e c he=>by simp at he) (by simp) (fun _=>rfl) (fun i j e c he=>by simp at he)
 have hlm:len≤m:=by rw[hm];split<;>omega
 have hd:d=.slice ((List.range len).map D') ((List.range (m - len)).map fun j=>D' (len+j)):=congrArg Prod.fst hx;rw[hd] at hb;simp only[uptoBulk] at hb;have hb1:len≤uptoBulkAll ((List.range len).map D'):=by
  have:=ulen_le ((List.range len).map D')
  simpa using this
 have hb2:∀i,i<len→uptoBulk (D' i)≤N:=fun i hi=>by
  have:=umem_le (d:=D' i) (l:=(List.range len).map D') (List.mem_map.2 ⟨i,List.mem_range.2 hi,rfl⟩);omega
 have each:∀i:Nat,i<len→∃b:α,∃cs',w.cells? 0 (a.add (i * s)) s=some cs'∧CT w (f b) cs'∧ok b:=fun i hi=>by
  obtain⟨cs',h1,h2⟩:=hel i (by omega);rw[hc] at h1;obtain⟨b,h3,h4⟩:=D cs' ⟨_,_,_,h2,hb2 i hi⟩;exact⟨b,cs',h1,h3,h4⟩
 have build:∀k,k≤len→∃l:List α,l.length=k∧∀i b,l[i]?=some b→∃cs',w.cells? 0 (a.add (i * s)) s=some cs'∧CT w (f b) cs'∧ok b:=by
  intro k
  induction k with
  |zero=>exact fun _=>⟨[],rfl,fun i b h=>by simp at h⟩
  |succ k ih =>
   intro hk;obtain⟨l,h1,h2⟩:=ih (by omega);obtain⟨b,cs',h3⟩:=each k (by omega);refine⟨l++[b],by simp [h1],fun i b' hb=>?_⟩
   by_cases hi:i<l.length
   ·rw[List.getElem?_append_left hi] at hb;exact h2 i b' hb
   rw[List.getElem?_append_right (by omega)] at hb;have:i - l.length=0:=by
    rcases Nat.eq_zero_or_pos (i - l.length) with h|h
    ·exact h
    rw[List.getElem?_eq_none (by simp;omega)] at hb;cases hb
   rw[this] at hb;simp at hb;subst hb;have:i=k:=by omega
   subst this;exact⟨cs',h3⟩
 obtain⟨l,hl,hall⟩:=build len (Nat.le_refl _);have hval:∀(i j:Nat) b c,l[i]?=some b→(f b)[j]?=some c→∃v,w.cell? (a.add (i * s+j))=some v∧TR (zG5 w) c v∧v.oneCell'=true:=fun i j b c hb hcj=>by
  obtain⟨cs',h1,h2,_⟩:=hall i b hb;obtain⟨h3,h4⟩:=cells_get h1;have hj:j<s:=by rw[← hf b];exact(List.getElem?_eq_some_iff.1 hcj).1
  have h5:=h4 j hj;rw[Deep.add_add] at h5;have h6:cs'[j]?=some (cs'[j]'(by omega)):=List.getElem?_eq_getElem _;rw[h6] at h5;exact⟨_,h5,h2.val j c _ hcj h6⟩
 refine⟨⟨false,false,l⟩,.one ?_ rfl,⟨fun b hb=>?_,?_,fun h=>(by cases h)⟩⟩
 ·have key:=TR.sl (I:=zG5 w) false false (l.map f) (some a) cap s (fun i j=>(w.cell? (a.add (i * s+j))).getD default) (fun h=>by cases h) (fun _=>⟨by simp,a.block,a.off,fun hne=>?_,fun i j e c he hj=>?_⟩)
   (fun e he=>by obtain⟨b,_,rfl⟩:=List.mem_map.1 he;exact hf b) (fun i j e c he hj=>?_) (by simp;omega) (fun h=>by cases h) (fun i j e c he hj=>?_)
  ·simpa [Sl.t,hl] using key
  ·obtain⟨b,hb⟩:∃b,l[0]?=some b:=by
    cases l with
    |nil=>simp at hne
    |cons b _=>exact⟨b,rfl⟩
   have hfb:0<(f b).length:=by rw[hf b];exact hs
   obtain⟨v,h1,_⟩:=hval 0 0 b _ hb (List.getElem?_eq_getElem hfb);have:a.add (0 * s+0)=a:=by simp [Addr.add]
   rw[this] at h1;rw[spot_none h1]
  ·rw[List.getElem?_map] at he;obtain⟨b,hb,rfl⟩:=Option.map_eq_some_iff.1 he;obtain⟨v,h1,_⟩:=hval i j b c hb hj;have hz:a=⟨a.block,a.off,none⟩∨0<i * s+j:=by
    rcases Nat.eq_zero_or_pos (i * s+j) with h|h
    ·rw[h] at h1;have:a.add 0=a:=by simp [Addr.add]
     rw[this] at h1;exact .inl (spot_none h1)
    exact .inr h
   have e:a.add (i * s+j)=⟨a.block,a.off+i * s+j,none⟩:=by
    unfold Addr.add;rcases hz with h|h
    ·split
     ·rename_i h0;rw[h];(first|(simp;done)|(simp;omega))
     (first|(simp;done)|(simp;omega))
    rw[if_neg (by omega)];(first|(simp;done)|(simp;omega))
   show w.cell? ⟨a.block,a.off+i * s+j,none⟩=_
   rw[← e,h1];rfl
  ·rw[List.getElem?_map] at he;obtain⟨b,hb,rfl⟩:=Option.map_eq_some_iff.1 he;obtain⟨v,h1,h2,_⟩:=hval i j b c hb hj;rw[h1];exact h2
  rw[List.getElem?_map] at he;obtain⟨b,hb,rfl⟩:=Option.map_eq_some_iff.1 he;obtain⟨v,h1,_,h2⟩:=hval i j b c hb hj;rw[h1];exact h2
 ·obtain⟨i,hi⟩:=List.getElem?_of_mem hb;obtain⟨_,_,_,h⟩:=hall i b hi;exact h
 simp only[hl];omega
theorem urd_struct {t:TypeId} {fs:Array Field} {cs:List Value} (ht:P.underlying t=some (.struct fs)) (h:uRd enc P w N t cs) :
  cs.length=P.cellsOf t∧∀(i:Nat) (f:Field),fs[i]?=some f→uRd enc P w N f.type ((cs.drop f.offset).take (P.cellsOf f.type)):=by
 obtain⟨n,d,ps,h,hb⟩:=h;obtain⟨xs,m,_,hx,h1,h2,h3⟩:=DataW.trod_struct ht h;have hd:d=.agg (xs.map (·.1)):=congrArg Prod.fst hx;rw[hd] at hb;simp only[uptoBulk] at hb;refine⟨h1,fun i f hf=>?_⟩;have h4:=h3 i f hf;have hi:i<xs.length:=by rw[h2];exact(Array.getElem?_eq_some_iff.1 hf).1
 rw[List.getElem?_eq_getElem hi] at h4;refine⟨_,xs[i].1,xs[i].2,h4,?_⟩;have:=umem_le (d:=xs[i].1) (l:=xs.map (·.1)) (List.mem_map.2 ⟨xs[i],List.getElem_mem hi,rfl⟩);omega
theorem urd_fields {t:TypeId} {l:List (TypeId×Nat)} {cs:List Value} (hfs:∃fs,P.underlying t=some (.struct fs)∧fs.toList.map (fun f=>(f.type,f.offset))=l) (h:uRd enc P w N t cs) :
  cs.length=P.cellsOf t∧∀x ∈ l,uRd enc P w N x.1 ((cs.drop x.2).take (P.cellsOf x.1)):=by
 obtain⟨fs,ht,rfl⟩:=hfs;obtain⟨h1,h2⟩:=urd_struct ht h;refine⟨h1,fun x hx=>?_⟩;obtain⟨f,hf,rfl⟩:=List.mem_map.1 hx;obtain⟨i,hi⟩:=List.getElem?_of_mem hf;exact h2 i f (by simpa using hi)
theorem urd_of_trod{t:TypeId}{v:Value}{d:DataW H}{ps:List MemPlace}(h:DataW.Trod enc P w 0 (fun _=>true) true t v d ps)(hb:uptoBulk d≤N):uRd enc P w N t v.cells.toList:=by
 obtain⟨n,h⟩:=h;exact⟨n,d,ps,h,hb⟩
end
end Go.Ab
