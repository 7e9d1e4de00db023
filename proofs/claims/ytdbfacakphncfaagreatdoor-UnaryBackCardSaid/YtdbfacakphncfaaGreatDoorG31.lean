/- Lemmas. -/
import Derived.Test.YtdbfacakphncfaaGreatDoorG22
import Derived.Test.YtdbfacakphncfaaGreatDoorG29
import Derived.Laws.RangeString
import Derived.Test.YtdbfacakphncfaaGreatDoorG28
set_option maxRecDepth 1000000
set_option maxHeartbeats 40000000
set_option linter.all false
namespace Go.Ab
open Go.Proofs
attribute [local irreducible] W RW RR
def zRi{l:List Tok}{L:List Node}(hl:l.length≤65536)(h1:L.length≤60)(h2:∀y ∈ L,NOK l y):XOK (slX L):=by
 refine⟨?_,?_,?_,?_⟩
 ·cases L with
  |nil=>intro _;rfl
  |cons a r=>intro h;cases h
 ·rw[zMu];omega
 ·rw[zMu];intro x hx;have:=(h2 x hx).2;omega
 rw[zMu];intro x hx;exact(h2 x hx).1
def zVW{l:List Tok}{x:Test}(hl:l.length≤65536)(h:TNK l x):TOK x:=by
 obtain⟨⟨A,ha,hC,hD⟩,⟨B,hb,hE,hq⟩,hk⟩:=h;exact⟨ha ▸ zRi hl hC hD,hb ▸ zRi hl hE hq,by omega⟩
structure ReadOK (vp:List Nat→Val×Int) (s:List Nat) (T:List Test):Prop where
 lex:∃L:List Tok,lexB vp s=some (L.map Tok.b)∧(xB L 0).2=(L.length,0)∧T=(xB L 0).1
 len:T.length<4294967000
 tok:∀x ∈ T,TOK x
def zWk(self:Val)(nl cl:Bool)(l:List Bind)(hl:l.length<9223372036854775808):∃x:Bool,Om CC 7 [.t (.agg [.int .u8 self.k,.int .i64 self.n,.str self.s]),.t (.sl nl cl (l.map Bind.c))] []=some (.val (.t (.bool x)),[]) ∧
  (x=false→l.length≤40∧self.s.length≤300∧∀b ∈ l,b.v.s.length≤300):=by
 refine zJ yHv rfl ?_;obtain⟨sk,sn,ss⟩:=self;have hF:Hid _:=⟨hl⟩
 clear hl
 (have F_:=c5 zF zG zE zC (c3 zB zAg (c2 zAh yJX));show W CC 0 29 (zA 7) _ ⟨[(0,_),(1,_)],[]⟩ _)
 (refine gA ?_)
 refine yE (α:=Nat) (fun i=>⟨[(1,.t (.sl nl cl (l.map Bind.c))),(2,.box 0 0),(7,.t (.int .i64 l.length)),(8,.t (.int .i64 i))],[.box [.t (.int .u8 sk),.t (.int .i64 sn),.t (.str ss)]]⟩) (fun i=>l.length - i) (fun i=>i≤l.length∧∀j (h:j<l.length),j<i→l[j].v.s.length≤300) 0 (by kernel_rfl) ⟨Nat.zero_le _,fun j h h2=>absurd h2 (Nat.not_lt_zero _)⟩ ?_;rintro i ⟨hi,hn⟩;have hh:Hid _:=⟨hn⟩
 clear hn
 by_cases hm:i<l.length
 ·have hw:=wI64 i (by have:=hF.h;omega);have he:l[i]?=some l[i]:=List.getElem?_eq_getElem hm;have hd:decide ((i:Int)<l.length)=true:=by simpa using hm
  have hz:Hid _:=⟨fun(h:l[i].v.s.length≤300) j (h1:j<l.length) (h2:j<i+1)=>(show l[j].v.s.length≤300 by rcases Nat.lt_or_ge j i with h3|h3;exact hh.h j h1 h3;(have:j=i:=by omega);subst this;exact h)⟩
  generalize l[i]=b at he hz
  by_cases hb:300<b.v.s.length
  ·have ht:decide ((b.v.s.length:Int) > 300)=true:=by simp;omega
   clear hb
   (refine gA ?_)
   all_goals refine aJ ?_<;>exact⟨true,⟨rfl,rfl⟩,fun h=>by cases h⟩
  have ht:decide ((b.v.s.length:Int) > 300)=false:=by simp;omega
  have hq:Hid _:=⟨hb⟩
  clear hb
  (refine gA ?_)
  exact zD (i+1) (by omega) ⟨by omega,hz.h (by have:=hq.h;omega)⟩ (by kernel_rfl)
 have hd:decide ((i:Int)<l.length)=false:=by simpa using hm
 have hy:Hid (∀b ∈ l,b.v.s.length≤300):=⟨fun b hb=>by
  obtain⟨j,hj,rfl⟩:=List.getElem_of_mem hb;exact hh.h j hj (by omega)⟩
 by_cases h1:40<l.length
 ·have ht:decide ((l.length:Int) > 40)=true:=by simp;omega
  clear h1
  (refine gA ?_)
  all_goals refine aJ ?_<;>exact⟨true,⟨rfl,rfl⟩,fun h=>by cases h⟩
 have ht:decide ((l.length:Int) > 40)=false:=by simp;omega
 by_cases h2:300<ss.length
 ·have hG:decide ((ss.length:Int) > 300)=true:=by simp;omega
  clear h1 h2
  (refine gA ?_)
  all_goals refine aJ ?_<;>exact⟨true,⟨rfl,rfl⟩,fun h=>by cases h⟩
 have hG:decide ((ss.length:Int) > 300)=false:=by simp;omega
 have hA:Hid (l.length≤40∧ss.length≤300):=⟨by omega,by omega⟩
 clear h1 h2
 (refine gA ?_)
 all_goals refine aJ ?_<;>exact⟨false,⟨rfl,rfl⟩,fun _=>⟨hA.h.1,hA.h.2,hy.h⟩⟩
def zIb{a:Ans}(h:TB a):jK a=true↔zET a:=by
 unfold jK zET;simp only[Bool.and_eq_true,beq_iff_eq];refine⟨fun⟨h1,h2,h3⟩=>⟨h1,?_⟩,fun⟨h1,h2⟩=>⟨h1,by rw[h2];rfl,by rw[h2];rfl⟩⟩;rcases h.2 with h'|h'|h'|h'
 ·exact absurd h1 h'
 ·exact h'
 ·rw[h'] at h3;cases h3
 rw[h'] at h2;cases h2
def zFM(self:Val)(vars:List Bind)(ts:List STst):TB (kB (SemA self vars) ts):=by
 unfold kB zCn;cases hl:(wB (SemA self vars) ts ts.length).getLast? with
 |none=>exact⟨jN,.inl (by decide)⟩
 |some a=>exact zG1 (zR7 self vars) ts _ a (List.mem_of_getLast? hl)
open Classical in
noncomputable def vpF(s:List Nat):Val×Int:=if h:s.length<9223372036854775808 then (zDj s h).choose else (VZ,4)
def zFN:VPH vpF:=by
 intro s h;unfold vpF;rw[dif_pos h];exact(zDj s h).choose_spec.1
def zC5(s:List Nat):VB (vpF s).1:=by
 unfold vpF;split
 ·rename_i h;exact(zDj s h).choose_spec.2.1
 exact jN
def zVI{s:List Nat}{i:Nat}(hi:i<s.length)(h:∀c ∈ s,c<128):Utf8.decode ⟨(s.map UInt8.ofNat).toArray⟩ i=(s[i],1):=by
 have hc:=h s[i] (List.getElem_mem hi);have hsz:i<(⟨(s.map UInt8.ofNat).toArray⟩:ByteArray).size:=by show i<(s.map UInt8.ofNat).toArray.size;simpa using hi
 have hg:((⟨(s.map UInt8.ofNat).toArray⟩:ByteArray)[i]'hsz).toNat=s[i]:=by
  show ((s.map UInt8.ofNat).toArray[i]'(by simpa using hi)).toNat=s[i]
  simp [UInt8.toNat_ofNat];omega
 have:=decode_ascii ⟨(s.map UInt8.ofNat).toArray⟩ i hsz (by rw[hg];exact hc);rw[this,hg]
def zPd (f:Nat) (hb:yY Tryz.prog f=true) (hI:∀x,CC.prim f x=none) (s:List Nat) (hs:∀c ∈ s,c<128) (hf:∀c ∈ s,Om CC f [.t (.int .i32 (c:Int))] []=some (.val (.t (.bool false)),[])) :
  Om CC 285 [.t (.str s),.t (.fn f),.t (.bool true)] []=some (.val (.t (.int .i64 (-1))),[]):=by
 refine zL zQq rfl ?_
 (have F_:=xaW;show W CC 0 21 (zA 285) _ ⟨[(0,_),(1,_),(2,_)],[]⟩ _)
 (have x0_:=@zGz.eq_1;(refine gA ?_);all_goals clear x0_)
 refine yE (α:=Nat) (fun i=>⟨[(1,.t (.fn f)),(2,.t (.bool true)),(10,.box 0 0)],[.siter s i]⟩) (fun i=>s.length - i) (fun i=>True) 0 (by kernel_rfl) trivial ?_;intro i _
 by_cases hm:i<s.length
 ·have hd:=zVI hm hs;have hJ:=hf s[i] (List.getElem_mem hm);generalize s[i]=c at *;clear hs hf
  (have x0_:=@zE8.eq_1;(refine gA ?_);all_goals clear x0_)
  all_goals exact zD (i+1) (by omega) trivial (by kernel_rfl)
 clear hs hf
 (have x0_:=@zE8.eq_1;(refine gA ?_);all_goals clear x0_)
 (refine aK ?_ ?_)
 all_goals rfl
def zP8{c:Nat}(h:yF c=true):Om CC 243 [.t (.int .i32 (c:Int))] []=some (.val (.t (.bool false)),[]):=by
 refine zL zQr rfl ?_;unfold yF yT yA at h;simp only[Bool.or_eq_true,Bool.and_eq_true,Nat.ble_eq] at h;rcases Nat.lt_or_ge c 97 with h1|h1
 ·have d1:decide ((c:Int)<97)=true:=by simp;omega
  have d2:decide ((c:Int)<48)=false:=by simp;omega
  have d3:decide ((c:Int) > 57)=false:=by simp;omega
  clear h h1
  (have F_:=c2 zHg zPU;show W CC 0 17 (zA 243) _ ⟨[(0,_)],[]⟩ _)
  (refine gA ?_)
  all_goals (refine aK ?_ ?_)<;>(rfl)
 have d1:decide ((c:Int)<97)=false:=by simp;omega
 have d2:decide ((c:Int) > 122)=false:=by simp;omega
 clear h h1
 (have F_:=c2 zHg zPU;show W CC 0 17 (zA 243) _ ⟨[(0,_)],[]⟩ _)
 (refine gA ?_)
 all_goals (refine aK ?_ ?_)<;>(rfl)
def zVE {s:List Nat} (h:Om CC 285 [.t (.str s),.t (.fn 243),.t (.bool true)] []=some (.val (.t (.int .i64 (-1))),[])) :
  Om CC 263 [.t (.str s),.t (.fn 243)] []=some (.val (.t (.int .i64 (-1))),[]):=by
 refine zL zJG rfl ?_
 (have F_:=xa1;show W CC 0 8 (zA 263) _ ⟨[(0,_),(1,_)],[]⟩ _)
 (refine gA ?_)
 all_goals (refine aK ?_ ?_)<;>(rfl)
def zUW {s:List Nat} (h:Om CC 263 [.t (.str s),.t (.fn 243)] []=some (.val (.t (.int .i64 (-1))),[])) :
  Om CC 234 [.t (.str s),.t (.fn 243)] []=some (.val (.t (.bool false)),[]):=by
 refine zL zJn rfl ?_
 (have F_:=xa2;show W CC 0 9 (zA 234) _ ⟨[(0,_),(1,_)],[]⟩ _)
 (refine gA ?_)
 all_goals (refine aK ?_ ?_)<;>(rfl)
def zRF {c:Nat} {p:List Nat} (h1:yT c=true) (hl:(c::p).length≤12) (h:Om CC 234 [.t (.str (c::p)),.t (.fn 243)] []=some (.val (.t (.bool false)),[])) :
  Om CC 208 [.t (.str (c::p))] []=some (.val (.t (.bool true)),[]):=by
 refine zL zRp rfl ?_;unfold yT at h1;simp only[Bool.and_eq_true,Nat.ble_eq] at h1;have d1:decide ((c:Int)<97)=false:=by simp;omega
 have d2:decide ((c:Int) > 122)=false:=by simp;omega
 have d3:decide (((c::p).length:Int) > 12)=false:=by simp;simp at hl;omega
 have hM:index Tryz.prog 9 (.t (.str (c::p))) 0=some (.t (.int .u8 (c:Int))):=qX (i:=0) rfl;have hN:beqL (c::p) []=false:=rfl;generalize c::p=s at *;clear h1 hl
 (have F_:=c5 zG zP zE zC (c3 kZ zUb zIm);show W CC 0 23 (zA 208) _ ⟨[(0,_)],[]⟩ _)
 (refine gA ?_)
 all_goals (refine aK ?_ ?_)<;>(rfl)
def zYW{w:List Nat}(h:Om CC 208 [.t (.str w)] []=some (.val (.t (.bool true)),[])):Om CC 163 [.t (.agg [.int .u8 5,.int .i64 0,.str w])] []=some (.val (.t (.bool true)),[]):=by
 refine zL zQp rfl ?_
 (have F_:=c5 zF zE zC zB (c2 zVm zUm);show W CC 0 51 (zA 163) _ ⟨[(0,_)],[]⟩ _)
 (repeat' first|refine gA ?_|refine gT ?_ ?_<;>intro hv<;>try cases hv;done|fail)
 all_goals (refine aK ?_ ?_)<;>(rfl)
def zWz {w:List Nat} (hl:w.length≤12) (h:Om CC 163 [.t (.agg [.int .u8 5,.int .i64 0,.str w])] []=some (.val (.t (.bool true)),[])) :
  Om CC 160 [.t (.agg [.int .u8 5,.int .i64 0,.str w])] []=some (.val (.t (.str (35::w))),[]):=by
 refine zL zRc rfl ?_;have sa:binop Tryz.prog .add 9 (.t (.str [35])) (.t (.str w))=some (.t (.str (35::w))):=yD (by simp;omega)
 (have F_:=c5 zF zG zP zE (c3 zC zB (c2 zVu zO3));show W CC 0 34 (zA 160) _ ⟨[(0,_)],[]⟩ _)
 (repeat' first|refine gA ?_|refine gT ?_ ?_<;>intro hv<;>try cases hv;done|fail)
 all_goals (refine aK ?_ ?_)<;>(rfl)
def zXd{c:Nat}(h:yF c=true):c<128:=by
 unfold yF yT yA at h;simp only[Bool.or_eq_true,Bool.and_eq_true,Nat.ble_eq] at h;omega
def zI1{v:Val}{s:List Nat}(h:R64 v.n∧v.s.length≤10000000)(hx:Om CC 160 [.t (.agg [.int .u8 v.k,.int .i64 v.n,.str v.s])] []=some (.val (.t (.str s)),[])):vtT v=s:=by
 have h1:=zVN v h;rw[hx] at h1;injection h1 with h1;injection h1 with h1 _;injection h1 with h1;injection h1 with h1;injection h1 with h1
 exact h1.symm
def yAs{w:List Nat}(h:zMl w):vtT (VSym w)=35::w:=by
 obtain⟨c,p,rfl,h1,h2,h3⟩:=h;refine zI1 ⟨wC,by show (c::p).length≤10000000;omega⟩ (zWz h3 (zYW (zRF h1 h3 (zUW (zVE (zPd _ zTO (fun x=>zX _ x (by decide)) _ (fun x hx=>zXd (h2 x hx)) (fun x hx=>zP8 (h2 x hx))))))))
def zTs:Om CC 160 [.t (.agg [.int .u8 4,.int .i64 1,.str []])] []=some (.val (.t (.str [116,114,117,101])),[]):=vK (n:=200) (by kernel_rfl)
def zSC:Om CC 160 [.t (.agg [.int .u8 4,.int .i64 0,.str []])] []=some (.val (.t (.str [102,97,108,115,101])),[]):=vK (n:=200) (by kernel_rfl)
def zSR:Om CC 160 [.t (.agg [.int .u8 0,.int .i64 0,.str []])] []=some (.val (.t (.str [110,117,108,108])),[]):=vK (n:=200) (by kernel_rfl)
def zWP:vtT ⟨4,1,[]⟩=[116,114,117,101]:=zI1 ⟨show R64 1 from ⟨by decide,by decide⟩,by simp⟩ zTs
def zTZ:vtT ⟨4,0,[]⟩=[102,97,108,115,101]:=zI1 ⟨wC,by simp⟩ zSC
def zWN:vtT ⟨0,0,[]⟩=[110,117,108,108]:=zI1 ⟨wC,by simp⟩ zSR
def zIF:VtOK (vp:=vpF) vtT where
 parse:=fun p v h=>by
  unfold vpF at h;split at h
  ·rename_i hp;have hs:=(zDj p hp).choose_spec.2;rw[h] at hs;obtain⟨h1,h2,h3⟩:=hs;exact zI1 ⟨h1.1,by dsimp only at h2;omega⟩ (h3 rfl)
  injection h with h1 h2
  cases h2
 sym:=fun w h=>yAs h
 tru:=zWP
 fals:=zTZ
 nul:=zWN
def zGp{vp:List Nat→Val×Int}{s:List Nat}{T T':List Test}(h:ReadOK vp s T)(h':ReadOK vp s T'):T'.map Test.s=T.map Test.s:=by
 obtain⟨L,h1,h2,h3⟩:=h.lex;obtain⟨L',k1,k2,k3⟩:=h'.lex;rw[h1] at k1;injection k1 with k1
 have hp:xB L 0=(T,L.length,0):=by rw[h3];exact Prod.ext rfl h2
 obtain⟨T2,q1,q2⟩:=zJ3 k1.symm hp;rw[k3,q1];exact q2
def zBu {vp:List Nat→Val×Int} (hH:VPH vp) (hv:∀x,VB (vp x).1) (s:List Nat) (hb:∀b ∈ s,b<256) (hs:s.length≤65536) :
  ∃(T:List Test) (p:Int×Int) (e:Int),Om CC 10 [.t (.str s)] []=some (.val (.tup [.t (wL T),.t (.agg [.int .i64 p.1,.int .i64 p.2]),.t (.int .i64 e)]),[])∧(e=0→ReadOK vp s T)∧(e≠0→T=[]∧∀T,¬ ReadOK vp s T):=by
 obtain⟨L,e0,hL,p,hr,-⟩:=zXu hH s hb hs (fun L h=>by have:=(zJd hv h).2;omega);refine⟨_,p,_,hr,fun he=>?_,fun he=>?_⟩
 ·have e00:e0=0:=Classical.byContradiction fun h=>by rw[if_neg h] at he;exact h he
  rw[if_pos e00] at he ⊢;have ho:lexB vp s=some (L.map Tok.b):=by
   rcases hL with h|h
   ·exact h.2
   exact absurd e00 h.1
  obtain⟨h1,h2⟩:=zJd hv ho;unfold zJj at he ⊢;have h3:(xB L 0).2.2=0:=Classical.byContradiction fun h=>by rw[if_neg h] at he;exact h he
  rw[if_pos h3] at he ⊢;have h4:¬ (xB L 0).2.1<L.length:=fun h=>by rw[if_pos h] at he;cases he
  rw[if_neg h4];obtain⟨n1,n2⟩:=zLH h1 h3;refine⟨⟨L,ho,?_,rfl⟩,by dsimp only;omega,fun x hx=>zVW (by omega) (n1 x hx)⟩;obtain⟨f,k,n,hu,_⟩:=zAR (l:=L) (Nat.zero_le _) h3;have hk:=zZ _ _ _ _ _ _ hu (Nat.zero_le _);have:(xB L 0).2.1≤L.length:=hk.2.2.1;exact Prod.ext (by show (xB L 0).2.1=L.length;omega) h3
 have no:∀T,e0=0→¬ ReadOK vp s T:=fun T h0 hR=>by
  rw[if_pos h0] at he;obtain⟨L',k1,k2,k3⟩:=hR.lex;rcases hL with h|h
  ·have h2:=h.2;rw[k1] at h2;injection h2 with h2
   have hp:xB L' 0=(T,L'.length,0):=by rw[k3];exact Prod.ext rfl k2
   obtain⟨T2,q1,q2⟩:=zJ3 h2.symm hp;have hl:L.length=L'.length:=by have:=congrArg List.length h2;simpa using this.symm
   apply he;unfold zJj;rw[q1];dsimp only;rw[if_pos rfl,if_neg (by omega)]
  exact h.1 h0
 refine⟨?_,fun T hR=>?_⟩
 ·by_cases h0:e0=0
  ·rw[if_pos h0] at he ⊢;unfold zJj at he ⊢;split
   ·rename_i h3;rw[if_pos h3] at he;split
    ·rfl
    rename_i h4;rw[if_neg h4] at he;exact absurd rfl he
   rfl
  rw[if_neg h0]
 by_cases h0:e0=0
 ·exact no T h0 hR
 rcases hL with h|h
 ·exact h0 h.1
 obtain⟨L',k1,_⟩:=hR.lex;rw[h.2.2] at k1;cases k1
end Go.Ab
