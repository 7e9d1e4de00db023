/- Lemmas. -/
import Derived.Test.YtdbfacakphncfaaGreatDoorG22
import Derived.Test.YtdbfacakphncfaaGreatDoorG24
import Derived.Test.YtdbfacakphncfaaGreatDoorG33
set_option maxRecDepth 1000000
set_option maxHeartbeats 40000000
set_option linter.all false
namespace Go.Ab
open Go.Proofs
attribute [local irreducible] W RW RR
def zPF{l:List Tok}{L:List Node}(hl:l.length≤65536)(h1:L.length≤60)(h2:∀y ∈ L,NOK l y):XOK (slX L):=by
 refine⟨?_,?_,?_,?_⟩
 ·cases L with
  |nil=>intro _;rfl
  |cons a r=>intro h;cases h
 ·rw[zKg];omega
 ·rw[zKg];intro x hx;have:=(h2 x hx).2;omega
 rw[zKg];intro x hx;exact(h2 x hx).1
def yFA{l:List Tok}{x:Test}(hl:l.length≤65536)(h:TNK l x):TOK x:=by
 obtain⟨⟨A,ha,ha1,ha2⟩,⟨B,hb,hb1,hb2⟩,hk⟩:=h;exact⟨ha ▸ zPF hl ha1 ha2,hb ▸ zPF hl hb1 hb2,by omega⟩
structure ReadOK (vp:List Nat→Val×Int) (s:List Nat) (T:List Test):Prop where
 lex:∃L:List Tok,lexB vp s=some (L.map Tok.b)∧(xG L 0).2=(L.length,0)∧T=(xG L 0).1
 len:T.length<4294967000
 tok:∀x ∈ T,TOK x
def zVr {vp:List Nat→Val×Int} (hvp:VPH vp) (hv:∀x,VB (vp x).1) (s:List Nat) (hb:∀b ∈ s,b<256) (hs:s.length≤65536) :
  ∃(T:List Test) (p:Int×Int) (e:Int),Om CC 10 [.t (.str s)] []=some (.val (.tup [.t (jY T),.t (.agg [.int .i64 p.1,.int .i64 p.2]),.t (.int .i64 e)]),[])∧(e=0→ReadOK vp s T):=by
 obtain⟨L,e0,hL,p,hr,-⟩:=zWj hvp s hb hs (fun L h=>by have:=(zPX hv h).2;omega);refine⟨_,p,_,hr,fun he=>?_⟩;have e00:e0=0:=Classical.byContradiction fun h=>by rw[if_neg h] at he;exact h he
 rw[if_pos e00] at he ⊢;have hlex:lexB vp s=some (L.map Tok.b):=by
  rcases hL with h|h
  ·exact h.2
  exact absurd e00 h.1
 obtain⟨h1,h2⟩:=zPX hv hlex;unfold zNk at he ⊢;have h3:(xG L 0).2.2=0:=Classical.byContradiction fun h=>by rw[if_neg h] at he;exact h he
 rw[if_pos h3] at he ⊢;have h4:¬ (xG L 0).2.1<L.length:=fun h=>by rw[if_pos h] at he;cases he
 rw[if_neg h4];obtain⟨n1,n2⟩:=zRc h1 h3;refine⟨⟨L,hlex,?_,rfl⟩,by dsimp only;omega,fun x hx=>yFA (by omega) (n1 x hx)⟩;obtain⟨f,k,n,hu,_⟩:=zFM (l:=L) (Nat.zero_le _) h3;have hk:=xR _ _ _ _ _ _ hu (Nat.zero_le _);have:(xG L 0).2.1≤L.length:=hk.2.2.1;exact Prod.ext (by show (xG L 0).2.1=L.length;omega) h3
def zVu(self:Val)(nl cl:Bool)(l:List Bind)(hl:l.length<9223372036854775808):∃x:Bool,Om CC 7 [.t (.agg [.int .u8 self.k,.int .i64 self.n,.str self.s]),.t (.sl nl cl (l.map Bind.c))] []=some (.val (.t (.bool x)),[]) ∧
  (x=false→l.length≤40∧self.s.length≤300∧∀b ∈ l,b.v.s.length≤300):=by
 refine zH yIY rfl ?_;obtain⟨sk,sn,ss⟩:=self;have hl2:Hid _:=⟨hl⟩
 clear hl
 (have F_:=c5 zF zG zE zD (c3 zC zDP (c2 zDG yJE));show W CC 0 29 (zA 7) _ ⟨[(0,_),(1,_)],[]⟩ _)
 (repeat' first|refine gA ?_|refine gT ?_ ?_<;>intro hv<;>try cases hv;done|fail)
 refine zW (α:=Nat) (fun i=>⟨[(1,.t (.sl nl cl (l.map Bind.c))),(2,.box 0 0),(7,.t (.int .i64 l.length)),(8,.t (.int .i64 i))],[.box [.t (.int .u8 sk),.t (.int .i64 sn),.t (.str ss)]]⟩) (fun i=>l.length - i) (fun i=>i≤l.length∧∀j (h:j<l.length),j<i→l[j].v.s.length≤300) 0 (by kernel_rfl) ⟨Nat.zero_le _,fun j h h2=>absurd h2 (Nat.not_lt_zero _)⟩ ?_;rintro i ⟨hi,hall⟩;have hall2:Hid _:=⟨hall⟩
 clear hall
 by_cases hi':i<l.length
 ·have hw:=wI64 i (by have:=hl2.h;omega);have he:l[i]?=some l[i]:=List.getElem?_eq_getElem hi';have hd:decide ((i:Int)<l.length)=true:=by simpa using hi'
  have hgi:Hid _:=⟨fun(h:l[i].v.s.length≤300) j (h1:j<l.length) (h2:j<i+1)=>(show l[j].v.s.length≤300 by rcases Nat.lt_or_ge j i with h3|h3;exact hall2.h j h1 h3;(have:j=i:=by omega);subst this;exact h)⟩
  generalize l[i]=b at he hgi
  by_cases hb:300<b.v.s.length
  ·have hd2:decide ((b.v.s.length:Int) > 300)=true:=by simp;omega
   clear hb
   (repeat' first|refine gA ?_|refine gT ?_ ?_<;>intro hv<;>try cases hv;done|fail)
   all_goals refine aM ?_<;>exact⟨true,⟨rfl,rfl⟩,fun h=>by cases h⟩
  have hd2:decide ((b.v.s.length:Int) > 300)=false:=by simp;omega
  have hb2:Hid _:=⟨hb⟩
  clear hb
  (repeat' first|refine gA ?_|refine gT ?_ ?_<;>intro hv<;>try cases hv;done|fail)
  exact zB (i+1) (by omega) ⟨by omega,hgi.h (by have:=hb2.h;omega)⟩ (by kernel_rfl)
 have hd:decide ((i:Int)<l.length)=false:=by simpa using hi'
 have hfin:Hid (∀b ∈ l,b.v.s.length≤300):=⟨fun b hb=>by
  obtain⟨j,hj,rfl⟩:=List.getElem_of_mem hb;exact hall2.h j hj (by omega)⟩
 by_cases h1:40<l.length
 ·have hd2:decide ((l.length:Int) > 40)=true:=by simp;omega
  clear h1
  (repeat' first|refine gA ?_|refine gT ?_ ?_<;>intro hv<;>try cases hv;done|fail)
  all_goals refine aM ?_<;>exact⟨true,⟨rfl,rfl⟩,fun h=>by cases h⟩
 have hd2:decide ((l.length:Int) > 40)=false:=by simp;omega
 by_cases h2:300<ss.length
 ·have hd3:decide ((ss.length:Int) > 300)=true:=by simp;omega
  clear h1 h2
  (repeat' first|refine gA ?_|refine gT ?_ ?_<;>intro hv<;>try cases hv;done|fail)
  all_goals refine aM ?_<;>exact⟨true,⟨rfl,rfl⟩,fun h=>by cases h⟩
 have hd3:decide ((ss.length:Int) > 300)=false:=by simp;omega
 have h12:Hid (l.length≤40∧ss.length≤300):=⟨by omega,by omega⟩
 clear h1 h2
 (repeat' first|refine gA ?_|refine gT ?_ ?_<;>intro hv<;>try cases hv;done|fail)
 all_goals refine aM ?_<;>exact⟨false,⟨rfl,rfl⟩,fun _=>⟨h12.h.1,h12.h.2,hfin.h⟩⟩
def zIi{a:Ans}(h:TB a):zDU a=true↔zCk a:=by
 unfold zDU zCk;simp only[Bool.and_eq_true,beq_iff_eq];refine⟨fun⟨h1,h2,h3⟩=>⟨h1,?_⟩,fun⟨h1,h2⟩=>⟨h1,by rw[h2];rfl,by rw[h2];rfl⟩⟩;rcases h.2 with h'|h'|h'|h'
 ·exact absurd h1 h'
 ·exact h'
 ·rw[h'] at h3;cases h3
 rw[h'] at h2;cases h2
def zHD(self:Val)(vars:List Bind)(ts:List STst):TB (zDW (SemA self vars) ts):=by
 unfold zDW zHc;cases hl:(zEr (SemA self vars) ts ts.length).getLast? with
 |none=>exact⟨zAn,.inl (by decide)⟩
 |some a=>exact zJM (yHv self vars) ts _ a (List.mem_of_getLast? hl)
def zPk {vp:List Nat→Val×Int} (self:Val) (vars:List Bind) {a b lw cw hw dw:List Nat} {c1 c2:Int}
  (hlow:(lw=[91]∧cw=[62,61]∧c1=6)∨(lw=[40]∧cw=[62]∧c1=5)) (hhigh:(hw=[93]∧dw=[60,61]∧c2=4)∨(hw=[41]∧dw=[60]∧c2=3)) {TR TX TY:List Test}
  (hr:ReadOK vp (lw++(40::a++[10,41])++[32,46,46,32]++(40::b++[10,41])++hw) TR) (hx:ReadOK vp (cw++32::(40::a++[10,41])) TX) (hy:ReadOK vp (dw++32::(40::b++[10,41])) TY) :
  zDU (kZ (TR.map Test.s) self vars)=(zDU (kZ (TX.map Test.s) self vars)&&zDU (kZ (TY.map Test.s) self vars)):=by
 obtain⟨LR,r1,r2,rfl⟩:=hr.lex;obtain⟨LX,x1,x2,rfl⟩:=hx.lex;obtain⟨LY,y1,y2,rfl⟩:=hy.lex;obtain⟨A,hA,ex⟩:=zPW vp (by rcases hlow with ⟨_,h,_⟩|⟨_,h,_⟩<;>simp [h]) x1;obtain⟨B,hB,ey⟩:=zPW vp (by rcases hhigh with ⟨_,h,_⟩|⟨_,h,_⟩<;>simp [h]) y1;have er:=zSY vp (by rcases hlow with ⟨h,_,_⟩|⟨h,_,_⟩<;>simp [h]) (by rcases hhigh with ⟨h,_,_⟩|⟨h,_,_⟩<;>simp [h]) hA hB r1;have hl:=zRy (S:=SemA self vars) (fun op op' x y h1 h2=>zN7 (zQ4 self vars op x (by omega)) (zQ4 self vars op' y (by omega))) hlow hhigh er ex ey r2 x2 y2;simp only[zQK];rw[Bool.eq_iff_iff,zIi (zHD self vars _),hl,Bool.and_eq_true,zIi (zHD self vars _),zIi (zHD self vars _)]
open Classical in
noncomputable def vpF(s:List Nat):Val×Int:=if h:s.length<9223372036854775808 then (zG8 s h).choose else (VZ,4)
def yJk:VPH vpF:=by
 intro s h;unfold vpF;rw[dif_pos h];exact(zG8 s h).choose_spec.1
def yES(s:List Nat):VB (vpF s).1:=by
 unfold vpF;split
 ·rename_i h;exact(zG8 s h).choose_spec.2.1
 exact zAn
def parL(a:List Nat):List Nat:=40::a++[10,41]
def zG4(a:List Nat):(parL a).length=a.length+3:=by simp [parL]
def zSh{a:List Nat}(h:∀b ∈ a,b<256):∀b ∈ parL a,b<256:=by
 intro b hb;simp only[parL,List.cons_append,List.mem_cons,List.mem_append,List.not_mem_nil,or_false] at hb;rcases hb with rfl|hb|rfl|rfl
 ·omega
 ·exact h b hb
 ·omega
 omega
def zKW(v:Val):AV:=.t (.agg [.int .u8 v.k,.int .i64 v.n,.str v.s])
def zKM(nl cl:Bool)(vars:List Bind):AV:=.t (.sl nl cl (vars.map Bind.c))
def zKl(T:List Test)(p:Int×Int)(e:Int):AV:=.tup [.t (jY T),.t (.agg [.int .i64 p.1,.int .i64 p.2]),.t (.int .i64 e)]
def zLJ (self:Val) (nl cl:Bool) (vars:List Bind) (hsv:VOK self) (hvv:∀b ∈ vars,VOK b.v) (hvl:vars.length<9223372036854775808) (s:List Nat) (hb:∀b ∈ s,b<256) (hs:s.length≤65536) :
  ∃(T:List Test) (p:Int×Int) (e:Int),Om CC 10 [.t (.str s)] []=some (.val (zKl T p e),[])∧((e != 0)=false→Om CC 11 [.t (jY T),zKW self,zKM nl cl vars] []=some (.val (.t (.bool (zDU (kZ (T.map Test.s) self vars)))),[]))∧(e=0→ReadOK vpF s T):=by
 obtain⟨T,p,e,h1,h2⟩:=zVr yJk yES s hb hs;exact⟨T,p,e,h1,fun he=>zWh T.isEmpty T.isEmpty T self nl cl vars (h2 (by simpa using he)).len (h2 (by simpa using he)).tok hsv hvv hvl,h2⟩
def zV7 (self:Val) (nl cl:Bool) (vars:List Bind) (hsv:VOK self) (hvv:∀b ∈ vars,VOK b.v) (hvl:vars.length<9223372036854775808) (a b:List Nat) (ha:∀c ∈ a,c<256) (hb:∀c ∈ b,c<256) (hal:a.length≤150) (hbl:b.length≤150)
  {lw cw hw dw:List Nat} {c1 c2:Int} (hlow:(lw=[91]∧cw=[62,61]∧c1=6)∨(lw=[40]∧cw=[62]∧c1=5)) (hhigh:(hw=[93]∧dw=[60,61]∧c2=4)∨(hw=[41]∧dw=[60]∧c2=3)) :
  ∃(TR TX TY:List Test) (pR pX pY:Int×Int) (eR eX eY:Int) (zX zY:Bool),
   Om CC 10 [.t (.str (lw++parL a++[32,46,46,32]++parL b++hw))] []=some (.val (zKl TR pR eR),[]) ∧
   Om CC 10 [.t (.str (cw++32::parL a))] []=some (.val (zKl TX pX eX),[]) ∧
   Om CC 10 [.t (.str (dw++32::parL b))] []=some (.val (zKl TY pY eY),[]) ∧
   ((eR != 0)=false→(eX != 0)=false→(eY != 0)=false→Om CC 11 [.t (jY TR),zKW self,zKM nl cl vars] []=some (.val (.t (.bool (zX&&zY))),[])) ∧
   ((eX != 0)=false→Om CC 11 [.t (jY TX),zKW self,zKM nl cl vars] []=some (.val (.t (.bool zX)),[])) ∧
   ((eY != 0)=false→Om CC 11 [.t (jY TY),zKW self,zKM nl cl vars] []=some (.val (.t (.bool zY)),[])):=by
 have pa:=zSh ha;have pb:=zSh hb;have la:=zG4 a;have lb:=zG4 b;obtain⟨TR,pR,eR,r1,s1,k1⟩:=zLJ self nl cl vars hsv hvv hvl (lw++parL a++[32,46,46,32]++parL b++hw) (by
  intro c hc;simp only[List.mem_append,List.mem_cons,List.not_mem_nil,or_false] at hc;rcases hc with (((hc|hc)|hc)|hc)|hc
  ·rcases hlow with ⟨rfl,_⟩|⟨rfl,_⟩<;>(simp at hc;omega)
  ·exact pa c hc
  ·omega
  ·exact pb c hc
  ·rcases hhigh with ⟨rfl,_⟩|⟨rfl,_⟩<;>(simp at hc;omega)) (by
  have:lw.length≤2:=by rcases hlow with ⟨rfl,_⟩|⟨rfl,_⟩<;>simp
  have:hw.length≤2:=by rcases hhigh with ⟨rfl,_⟩|⟨rfl,_⟩<;>simp
  simp only[List.length_append,List.length_cons,List.length_nil];omega)
 obtain⟨TX,pX,eX,r2,s2,k2⟩:=zLJ self nl cl vars hsv hvv hvl (cw++32::parL a) (by
  intro c hc;simp only[List.mem_append,List.mem_cons] at hc;rcases hc with hc|hc|hc
  ·rcases hlow with ⟨_,rfl,_⟩|⟨_,rfl,_⟩<;>(simp at hc;omega)
  ·omega
  ·exact pa c hc) (by
  have:cw.length≤2:=by rcases hlow with ⟨_,rfl,_⟩|⟨_,rfl,_⟩<;>simp
  simp only[List.length_append,List.length_cons,List.length_nil];omega)
 obtain⟨TY,pY,eY,r3,s3,k3⟩:=zLJ self nl cl vars hsv hvv hvl (dw++32::parL b) (by
  intro c hc;simp only[List.mem_append,List.mem_cons] at hc;rcases hc with hc|hc|hc
  ·rcases hhigh with ⟨_,rfl,_⟩|⟨_,rfl,_⟩<;>(simp at hc;omega)
  ·omega
  ·exact pb c hc) (by
  have:dw.length≤2:=by rcases hhigh with ⟨_,rfl,_⟩|⟨_,rfl,_⟩<;>simp
  simp only[List.length_append,List.length_cons,List.length_nil];omega)
 refine⟨TR,TX,TY,pR,pX,pY,eR,eX,eY,_,_,r1,r2,r3,fun h1 h2 h3=>?_,s2,s3⟩;rw[s1 h1,zPk self vars hlow hhigh (k1 (by simpa using h1)) (k2 (by simpa using h2)) (k3 (by simpa using h3))]
def yEA(T:Option (List (List Tree))):∃(n:Bool) (E:List (List Tree)),slO T=.sl n n E:=by
 cases T with
 |none=>exact⟨_,_,rfl⟩
 |some E=>exact⟨_,_,rfl⟩
def zSI(s:List Nat)(hs:s.length≤150):∃(n:Bool) (E:List (List Tree)) (p1 p2 e:Int),Om CC 9 [.t (.str s)] []=some (.val (.tup [.t (.sl n n E),.t (.agg [.int .i64 p1,.int .i64 p2]),.t (.int .i64 e)]),[]):=by
 obtain⟨⟨T,⟨p1,p2⟩,e⟩,h,-⟩:=zRN s (by omega);obtain⟨n,E,hE⟩:=yEA T;exact⟨n,E,p1,p2,e,by rw[h];dsimp only;rw[hE]⟩
def yHs:build Tryz.prog 34 [(0,.t (.str [91])),(1,.t (.str [62,61,32]))]=some (.t (.agg [.str [91],.str [62,61,32]])):=by kernel_rfl
def yHK:build Tryz.prog 34 [(0,.t (.str [40])),(1,.t (.str [62,32]))]=some (.t (.agg [.str [40],.str [62,32]])):=by kernel_rfl
def yHM:build Tryz.prog 34 [(0,.t (.str [93])),(1,.t (.str [60,61,32]))]=some (.t (.agg [.str [93],.str [60,61,32]])):=by kernel_rfl
def yHL:build Tryz.prog 34 [(0,.t (.str [41])),(1,.t (.str [60,32]))]=some (.t (.agg [.str [41],.str [60,32]])):=by kernel_rfl
def yJj:build Tryz.prog 35 [(0,.t (.agg [.str [91],.str [62,61,32]])),(1,.t (.agg [.str [40],.str [62,32]]))]=some (.t (.agg [.str [91],.str [62,61,32],.str [40],.str [62,32]])):=by kernel_rfl
def yH3:build Tryz.prog 35 [(0,.t (.agg [.str [93],.str [60,61,32]])),(1,.t (.agg [.str [41],.str [60,32]]))]=some (.t (.agg [.str [93],.str [60,61,32],.str [41],.str [60,32]])):=by kernel_rfl
def yIg:index Tryz.prog 35 (.t (.agg [.str [91],.str [62,61,32],.str [40],.str [62,32]])) 0=some (.t (.agg [.str [91],.str [62,61,32]])):=by kernel_rfl
def yIM:index Tryz.prog 35 (.t (.agg [.str [91],.str [62,61,32],.str [40],.str [62,32]])) 1=some (.t (.agg [.str [40],.str [62,32]])):=by kernel_rfl
def yHl:index Tryz.prog 35 (.t (.agg [.str [93],.str [60,61,32],.str [41],.str [60,32]])) 0=some (.t (.agg [.str [93],.str [60,61,32]])):=by kernel_rfl
def yHi:index Tryz.prog 35 (.t (.agg [.str [93],.str [60,61,32],.str [41],.str [60,32]])) 1=some (.t (.agg [.str [41],.str [60,32]])):=by kernel_rfl
def yCv(k:Nat)(h:k<2):∃(lw cw cs:List Nat) (c1:Int),((lw=[91]∧cw=[62,61]∧c1=6)∨(lw=[40]∧cw=[62]∧c1=5))∧index Tryz.prog 35 (.t (.agg [.str [91],.str [62,61,32],.str [40],.str [62,32]])) (k:Int)=some (.t (.agg [.str lw,.str cs]))∧(∀A,cs++A=cw++32::A)∧lw.length=1∧cs.length≤3:=by
 match k,h with
 |0,_=>exact⟨_,_,_,6,.inl ⟨rfl,rfl,rfl⟩,yIg,fun _=>rfl,rfl,by decide⟩
 |1,_=>exact⟨_,_,_,5,.inr ⟨rfl,rfl,rfl⟩,yIM,fun _=>rfl,rfl,by decide⟩
def zY1(k:Nat)(h:k<2):∃(hw dw ds:List Nat) (c2:Int),((hw=[93]∧dw=[60,61]∧c2=4)∨(hw=[41]∧dw=[60]∧c2=3))∧index Tryz.prog 35 (.t (.agg [.str [93],.str [60,61,32],.str [41],.str [60,32]])) (k:Int)=some (.t (.agg [.str hw,.str ds]))∧(∀A,ds++A=dw++32::A)∧hw.length=1∧ds.length≤3:=by
 match k,h with
 |0,_=>exact⟨_,_,_,4,.inl ⟨rfl,rfl,rfl⟩,yHl,fun _=>rfl,rfl,by decide⟩
 |1,_=>exact⟨_,_,_,3,.inr ⟨rfl,rfl,rfl⟩,yHi,fun _=>rfl,rfl,by decide⟩
def xbH:=c5 zF zG zN zE (c5 zD zC zDP zT (c5 zL zQ zNw zNm (c5 xU zDG zK xM (c5 zM zRE zQL zQV (c5 zQP zNp zNd @zKP (c3 @zK6 @zOd @zON))))))
def zPc (a b:List Nat) (self:Val) (nl cl:Bool) (vars:List Bind) (hab:∀c ∈ a,c<256) (hbb:∀c ∈ b,c<256)
  (hn:R64 self.n) (hv:∀c ∈ vars,R64 c.v.n) (hvl:vars.length<9223372036854775808) :
  Om CC 3 [.t (.str a),.t (.str b),.t (.agg [.int .u8 self.k,.int .i64 self.n,.str self.s]),.t (.sl nl cl (vars.map Bind.c))] []=some (.val (.t (.bool true)),[]):=by
 refine zV yHW rfl ?_;have hkn:=zXv;obtain⟨lo,hlo,hlof⟩:=zVu self nl cl vars hvl
 by_cases h1:150<a.length
 ·have hd1:decide ((a.length:Int) > 150)=true:=decide_eq_true (by omega);clear hab hbb hn hv hvl hlo hlof h1;obtain⟨sk,sn,ss⟩:=self
  (have F_:=xbH;show W CC 0 140 (zA 3) _ ⟨[(0,_),(1,_),(2,_),(3,_)],[]⟩ _)
  (repeat' first|refine gA ?_|refine gT ?_ ?_<;>intro hv<;>try cases hv;done|fail)
  all_goals refine aO ?_ ?_<;>(first|rfl)
 have hd1:decide ((a.length:Int) > 150)=false:=decide_eq_false (by omega)
 by_cases h2:150<b.length
 ·have hd2:decide ((b.length:Int) > 150)=true:=decide_eq_true (by omega);clear hab hbb hn hv hvl hlo hlof h1 h2;obtain⟨sk,sn,ss⟩:=self
  (have F_:=xbH;show W CC 0 140 (zA 3) _ ⟨[(0,_),(1,_),(2,_),(3,_)],[]⟩ _)
  (repeat' first|refine gA ?_|refine gT ?_ ?_<;>intro hv<;>try cases hv;done|fail)
  all_goals refine aO ?_ ?_<;>(first|rfl)
 have hd2:decide ((b.length:Int) > 150)=false:=decide_eq_false (by omega);cases lo with
 |true =>
  clear hab hbb hn hv hvl hlof h1 h2;obtain⟨sk,sn,ss⟩:=self
  (have F_:=xbH;show W CC 0 140 (zA 3) _ ⟨[(0,_),(1,_),(2,_),(3,_)],[]⟩ _)
  (repeat' first|refine gA ?_|refine gT ?_ ?_<;>intro hv<;>try cases hv;done|fail)
  all_goals refine aO ?_ ?_<;>(first|rfl)
 |false =>
  obtain⟨q1,q2,q3⟩:=hlof rfl;have hsv:VOK self:=⟨hn,by omega⟩
  have hvv2:∀c ∈ vars,VOK c.v:=fun c hc=>⟨hv c hc,by have:=q3 c hc;omega⟩
  obtain⟨na,Ea,pa1,pa2,ea,hra⟩:=zSI a (by omega);obtain⟨nb,Eb,pb1,pb2,eb,hrb⟩:=zSI b (by omega);have sa1:binop Tryz.prog .add 9 (.t (.str [40])) (.t (.str a))=some (.t (.str (40::a))):=yO (by simp;omega);have sa2:binop Tryz.prog .add 9 (.t (.str (40::a))) (.t (.str [10,41]))=some (.t (.str (parL a))):=yO (by simp;omega);have sb1:binop Tryz.prog .add 9 (.t (.str [40])) (.t (.str b))=some (.t (.str (40::b))):=yO (by simp;omega);have sb2:binop Tryz.prog .add 9 (.t (.str (40::b))) (.t (.str [10,41]))=some (.t (.str (parL b))):=yO (by simp;omega);have la:=zG4 a;have lb:=zG4 b;have rd:=fun {lw cw hw dw:List Nat} {c1 c2:Int} (hlow:(lw=[91]∧cw=[62,61]∧c1=6)∨(lw=[40]∧cw=[62]∧c1=5)) (hhigh:(hw=[93]∧dw=[60,61]∧c2=4)∨(hw=[41]∧dw=[60]∧c2=3)) =>
   zV7 self nl cl vars hsv hvv2 hvl a b hab hbb (by omega) (by omega) hlow hhigh
  have hrd:Hid _:=⟨@rd⟩
  have hl:Hid ((parL a).length≤153∧(parL b).length≤153):=⟨by omega,by omega⟩
  clear rd hab hbb hn hv hvl hlof h1 h2 q1 q2 q3 hsv hvv2 la lb;generalize parL a=A at *;generalize parL b=B at *;obtain⟨sk,sn,ss⟩:=self;have u1:=yHs;have u2:=yHK;have u3:=yJj
  (have F_:=xbH;show W CC 0 140 (zA 3) _ ⟨[(0,_),(1,_),(2,_),(3,_)],[]⟩ _)
  (repeat' first|refine gA ?_|refine gT ?_ ?_<;>intro hv<;>try cases hv;done|fail)
  all_goals first|((refine aO ?_ ?_)<;>rfl)|skip
  clear hra hrb sa1 sa2 sb1 sb2 hlo u1 u2 u3 hd1 hd2;refine zW (α:=Nat) (fun k=>⟨[(0,.t (.str A)),(1,.t (.str B)),(3,.t (.sl nl cl (vars.map Bind.c))),(6,.box 0 0),(69,.t (.agg [.str [91],.str [62,61,32],.str [40],.str [62,32]])),(70,.t (.int .i64 (k:Int)))],[.box [.t (.int .u8 sk),.t (.int .i64 sn),.t (.str ss)]]⟩) (fun k=>2 - k) (fun k=>k≤2) 0 (by exact aTd) (by omega) ?_;intro k hk
  by_cases hk2:k<2
  ·have hd:decide ((k:Int)<2)=true:=decide_eq_true (by omega);obtain⟨lw,cw,cs,c1,hlow,hix,hcs,hlw,hcl⟩:=yCv k hk2;have hwk:=wI64 k (by omega);have v1:=yHM;have v2:=yHL;have v3:=yH3;have hk3:Hid _:=⟨hk2⟩
   have hL:Hid _:=⟨And.intro hlow (And.intro hcs (And.intro hlw hcl))⟩
   clear hk hk2 hlow hcs hlw hcl
   (repeat' first|refine gA ?_|refine gT ?_ ?_<;>intro hv<;>try cases hv;done|fail)
   clear v1 v2 v3 hd hix hkn;refine zW (α:=Nat) (fun j=>⟨[(0,.t (.str A)),(1,.t (.str B)),(3,.t (.sl nl cl (vars.map Bind.c))),(6,.box 0 0),(16,.box 1 0),(69,.t (.agg [.str [91],.str [62,61,32],.str [40],.str [62,32]])),(70,.t (.int .i64 (k:Int))),(75,.t (.agg [.str [93],.str [60,61,32],.str [41],.str [60,32]])),(76,.t (.int .i64 (j:Int)))],[.box [.t (.int .u8 sk),.t (.int .i64 sn),.t (.str ss)],.box [.t (.str lw),.t (.str cs)]]⟩) (fun j=>2 - j) (fun j=>j≤2) 0 (by exact aTd) (by omega) ?_;intro j hj
   by_cases hj2:j<2
   ·have hd:decide ((j:Int)<2)=true:=decide_eq_true (by omega);obtain⟨hw,dw,ds,c2,hhigh,hix,hds,hhw,hdl⟩:=zY1 j hj2;have hwj:=wI64 j (by omega);obtain⟨TR,TX,TY,pR,pX,pY,eR,eX,eY,zX,zY,r1,r2,r3,s1,s2,s3⟩:=hrd.h hL.h.1 hhigh;have q1:=hL.h.2.2.1;have q2:=hL.h.2.2.2;have q3:=hl.h.1;have q4:=hl.h.2;have sa1:binop Tryz.prog .add 9 (.t (.str lw)) (.t (.str A))=some (.t (.str (lw++A))):=yO (by omega);have sa2:binop Tryz.prog .add 9 (.t (.str (lw++A))) (.t (.str [32,46,46,32]))=some (.t (.str (lw++A++[32,46,46,32]))):=yO (by simp only[List.length_append,List.length_cons,List.length_nil];omega);have sa3:binop Tryz.prog .add 9 (.t (.str (lw++A++[32,46,46,32]))) (.t (.str B))=some (.t (.str (lw++A++[32,46,46,32]++B))):=yO (by simp only[List.length_append,List.length_cons,List.length_nil];omega);have sa4:binop Tryz.prog .add 9 (.t (.str (lw++A++[32,46,46,32]++B))) (.t (.str hw))=some (.t (.str (lw++A++[32,46,46,32]++B++hw))):=yO (by simp only[List.length_append,List.length_cons,List.length_nil];omega);have sa5:binop Tryz.prog .add 9 (.t (.str cs)) (.t (.str A))=some (.t (.str (cs++A))):=yO (by omega);have sa6:binop Tryz.prog .add 9 (.t (.str ds)) (.t (.str B))=some (.t (.str (ds++B))):=yO (by omega);rw[hL.h.2.1 A] at sa5;rw[hds B] at sa6;generalize lw++A++[32,46,46,32]++B++hw=S4 at sa4 r1;generalize lw++A++[32,46,46,32]++B=S3 at sa3 sa4;generalize lw++A++[32,46,46,32]=S2 at sa2 sa3;generalize lw++A=S1 at sa1 sa2;generalize cw++32::A=X1 at sa5 r2;generalize dw++32::B=Y1 at sa6 r3;simp only[zKl,jY,zKW,zKM] at r1 r2 r3 s1 s2 s3;generalize TR.map Test.c=CR at *;generalize TR.isEmpty=NR at *;generalize TX.map Test.c=CX at *;generalize TX.isEmpty=NX at *;generalize TY.map Test.c=CY at *;generalize TY.isEmpty=NY at *;have hj3:Hid _:=⟨hj2⟩
    clear hj hj2 hhigh hds hhw hdl q1 q2 q3 q4;cases zX<;>cases zY
    all_goals simp only[Bool.and_true,Bool.and_false,Bool.true_and,Bool.false_and] at s1<;>(repeat' first|refine gA ?_|refine gT ?_ ?_<;>intro hv<;>try cases hv;done|fail)<;>exact zB (j+1) (by have:=hj3.h;omega) (by have:=hj3.h;omega) (by exact aTd)
   have hd:decide ((j:Int)<2)=false:=decide_eq_false (by omega);clear hj hj2
   (repeat' first|refine gA ?_|refine gT ?_ ?_<;>intro hv<;>try cases hv;done|fail)
   exact zB (k+1) (by have:=hk3.h;omega) (by have:=hk3.h;omega) (by exact aTd)
  have hd:decide ((k:Int)<2)=false:=decide_eq_false (by omega);clear hk hk2
  (repeat' first|refine gA ?_|refine gT ?_ ?_<;>intro hv<;>try cases hv;done|fail)
  all_goals refine aO ?_ ?_<;>(first|rfl)
end Go.Ab
