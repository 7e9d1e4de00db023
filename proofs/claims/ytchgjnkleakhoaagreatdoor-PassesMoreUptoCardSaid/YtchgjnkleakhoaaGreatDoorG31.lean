/- Lemmas. -/
import Derived.Test.YtchgjnkleakhoaaGreatDoorG16
import Derived.Test.YtchgjnkleakhoaaGreatDoorG22
import Derived.Test.YtchgjnkleakhoaaGreatDoorG29
import Derived.Laws.RangeString
import Derived.Test.YtchgjnkleakhoaaGreatDoorG28
set_option maxRecDepth 1000000
set_option maxHeartbeats 40000000
set_option linter.all false
namespace Go.Ab
open Go.Proofs
def zQG{l:List Tok}{L:List Node}(hl:l.length≤65536)(h1:L.length≤60)(h2:∀y ∈ L,NOK l y):XOK (slX L):=by
 refine⟨?_,?_,?_,?_⟩
 ·cases L with
  |nil=>intro _;rfl
  |cons a r=>intro h;cases h
 ·rw[zKy];omega
 ·rw[zKy];intro x hx;have:=(h2 x hx).2;omega
 rw[zKy];intro x hx;exact(h2 x hx).1
def yDO{l:List Tok}{x:Test}(hl:l.length≤65536)(h:TNK l x):TOK x:=by
 obtain⟨⟨A,ha,ha1,ha2⟩,⟨B,hb,hb1,hb2⟩,hk⟩:=h;exact⟨ha ▸ zQG hl ha1 ha2,hb ▸ zQG hl hb1 hb2,by omega⟩
structure ReadOK (vp:List Nat→Val×Int) (s:List Nat) (T:List Test):Prop where
 lex:∃L:List Tok,lexB vp s=some (L.map Tok.b)∧(xS L 0).2=(L.length,0)∧T=(xS L 0).1
 len:T.length<4294967000
 tok:∀x ∈ T,TOK x
open Classical in
noncomputable def vpF(s:List Nat):Val×Int:=if h:s.length<9223372036854775808 then (zGW s h).choose else (VZ,4)
def zRu:VPH vpF:=by
 intro s h;unfold vpF;rw[dif_pos h];exact(zGW s h).choose_spec.1
def zPq(s:List Nat):VB (vpF s).1:=by
 unfold vpF;split
 ·rename_i h;exact(zGW s h).choose_spec.2.1
 exact zAA
attribute [local irreducible] W RW RR
def zNv {vp:List Nat→Val×Int} (hvp:VPH vp) (hv:∀x,VB (vp x).1) (s:List Nat) (hb:∀b ∈ s,b<256) (hs:s.length≤65536) :
  ∃(T:List Test) (p:Int×Int) (e:Int),Om CC 38 [.t (.str s)] []=some (.val (.tup [.t (zAW T),.t (.agg [.int .i64 p.1,.int .i64 p.2]),.t (.int .i64 e)]),[])∧(e=0→ReadOK vp s T)∧(e≠0→T=[]∧∀T,¬ ReadOK vp s T):=by
 obtain⟨L,e0,hL,p,hr,-⟩:=zW2 hvp s hb hs (fun L h=>by have:=(zMk hv h).2;omega);refine⟨_,p,_,hr,fun he=>?_,fun he=>?_⟩
 ·have e00:e0=0:=Classical.byContradiction fun h=>by rw[if_neg h] at he;exact h he
  rw[if_pos e00] at he ⊢;have hlex:lexB vp s=some (L.map Tok.b):=by
   rcases hL with h|h
   ·exact h.2
   exact absurd e00 h.1
  obtain⟨h1,h2⟩:=zMk hv hlex;unfold zIU at he ⊢;have h3:(xS L 0).2.2=0:=Classical.byContradiction fun h=>by rw[if_neg h] at he;exact h he
  rw[if_pos h3] at he ⊢;have h4:¬ (xS L 0).2.1<L.length:=fun h=>by rw[if_pos h] at he;cases he
  rw[if_neg h4];obtain⟨n1,n2⟩:=zRW h1 h3;refine⟨⟨L,hlex,?_,rfl⟩,by dsimp only;omega,fun x hx=>yDO (by omega) (n1 x hx)⟩;obtain⟨f,k,n,hu,_⟩:=zHO (l:=L) (Nat.zero_le _) h3;have hk:=yH _ _ _ _ _ _ hu (Nat.zero_le _);have:(xS L 0).2.1≤L.length:=hk.2.2.1;exact Prod.ext (by show (xS L 0).2.1=L.length;omega) h3
 have no:∀T,e0=0→¬ ReadOK vp s T:=fun T h0 hR=>by
  rw[if_pos h0] at he;obtain⟨L',k1,k2,k3⟩:=hR.lex;rcases hL with h|h
  ·have h2:=h.2;rw[k1] at h2;injection h2 with h2
   have hp:xS L' 0=(T,L'.length,0):=by rw[k3];exact Prod.ext rfl k2
   obtain⟨T2,q1,q2⟩:=zPV h2.symm hp;have hl:L.length=L'.length:=by have:=congrArg List.length h2;simpa using this.symm
   apply he;unfold zIU;rw[q1];dsimp only;rw[if_pos rfl,if_neg (by omega)]
  exact h.1 h0
 refine⟨?_,fun T hR=>?_⟩
 ·by_cases h0:e0=0
  ·rw[if_pos h0] at he ⊢;unfold zIU at he ⊢;split
   ·rename_i h3;rw[if_pos h3] at he;split
    ·rfl
    rename_i h4;rw[if_neg h4] at he;exact absurd rfl he
   rfl
  rw[if_neg h0]
 by_cases h0:e0=0
 ·exact no T h0 hR
 rcases hL with h|h
 ·exact h0 h.1
 obtain⟨L',k1,_⟩:=hR.lex;rw[h.2.2] at k1;cases k1
end Go.Ab
