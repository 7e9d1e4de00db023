/- Lemmas. -/
import Derived.Test.YtchgjnkleakhoaaGreatDoorG18
import Derived.Test.YtchgjnkleakhoaaGreatDoorG06
set_option maxRecDepth 1000000
set_option maxHeartbeats 40000000
set_option linter.all false
namespace Go.Ab
open Go.Proofs
attribute [local irreducible] W RW RR
def zV7(s:List Nat)(h:1≤s.length):Om CC 284 [.t (.str s)] []=some (.val (.tup [.t (.agg [.int .u8 5,.int .i64 0,.str (s.drop 1)]),.t (.int .i64 0)]),[]):=by
 have hsl:∀g,slice Tryz.prog g 9 (.t (.str s)) (some 1) none none=some (.t (.str (s.drop 1))):=fun g=>zCZ (n:=1) h
 generalize s.drop 1=d at *;refine zK yAS rfl ?_
 (have F_:=c5 zF zE zD zB yE5;show W CC 0 7 (zA 284) _ ⟨[(0,_)],[]⟩ _)
 (refine gA ?_)
 all_goals refine aK ?_ ?_<;>(first|rfl)
def zWb(b:Bool):(uR b).s=[]:=by
 have h:∃k n,Om CC 86 [.t (.bool b)] []=some (.val (.t (.agg [.int .u8 k,.int .i64 n,.str []])),[]):=by
  cases b
  ·exact⟨4,0,jR (n:=200) (by kernel_rfl)⟩
  exact⟨4,1,jR (n:=200) (by kernel_rfl)⟩
 obtain⟨k,n,h⟩:=h;have h:=(uU b).symm.trans h;generalize uR b=x at h;obtain⟨k,n,s⟩:=x;cases h
 rfl
def zTR(s:List Nat):∃r:Val×Int,Om CC 286 [.t (.str s)] []=some (.val (.tup [.t (.agg [.int .u8 r.1.k,.int .i64 r.1.n,.str r.1.s]),.t (.int .i64 r.2)]),[])∧VOK r.1∧r.1.s=[]:=by
 refine zJ zZa rfl ?_;generalize beqL s [116,114,117,101]=b1 at *
 (have F_:=c5 zF zQ zE zD (c3 zB yC0 (c2 zDz @uU));show W CC 0 15 (zA 286) _ ⟨[(0,_)],[]⟩ _)
 (repeat' first|refine gA ?_|refine gT ?_ ?_<;>intro hv|fail)
 all_goals refine aJ ?_<;>(first|exact⟨(⟨0,0,[]⟩,_),⟨rfl,rfl⟩,yR,rfl⟩|exact⟨(uR _,0),⟨rfl,rfl⟩,zC0 _,zWb _⟩)
def zJI(r:Int):∃x:Bool,Om CC 314 [.t (.int .i32 r)] []=some (.val (.t (.bool x)),[])∧(True):=by
 refine zJ zZP rfl ?_
 (have F_:=c2 zNT yDZ;show W CC 0 9 (zA 314) _ ⟨[(0,_)],[]⟩ _)
 (repeat' first|refine gA ?_|refine gT ?_ ?_<;>intro hv|fail)
 all_goals refine aJ ?_<;>exact⟨_,⟨rfl,rfl⟩,by trivial⟩
noncomputable def zQA(r:Int):Bool:=(zJI r).choose
def zRM(r:Int):Om CC 314 [.t (.int .i32 r)] []=some (.val (.t (.bool (zQA r))),[]):=(zJI r).choose_spec.1
def yGm(s:List Nat):∃x:Int,Om CC 326 [.t (.str s),.t (.fn 314),.t (.bool true)] []=some (.val (.t (.int .i64 x)),[])∧True :=
 zEL _ yEP (fun x=>zZ _ x (by decide)) zQA zRM s true
def zUg(s:List Nat):∃x:Int,Om CC 294 [.t (.str s),.t (.fn 314)] []=some (.val (.t (.int .i64 x)),[])∧(True):=by
 obtain⟨x,hx,-⟩:=yGm s;refine zJ zMc rfl ?_
 (have F_:=c5 zQ zD zBL zNZ zOw;show W CC 0 8 (zA 294) _ ⟨[(0,_),(1,_)],[]⟩ _)
 (refine gA ?_)
 all_goals refine aJ ?_<;>exact⟨_,⟨rfl,rfl⟩,by trivial⟩
def zTE(s:List Nat):∃x:Bool,Om CC 258 [.t (.str s),.t (.fn 314)] []=some (.val (.t (.bool x)),[])∧(True):=by
 obtain⟨x,hx,-⟩:=zUg s;refine zJ zLY rfl ?_
 (have F_:=c5 zG zD zBL zOh zOp;show W CC 0 9 (zA 258) _ ⟨[(0,_),(1,_)],[]⟩ _)
 (refine gA ?_)
 all_goals refine aJ ?_<;>exact⟨_,⟨rfl,rfl⟩,by trivial⟩
def xa1:=c5 zQ zD zBL zUj zLV
def zJt(s:List Nat):∃x:Bool,Om CC 289 [.t (.str s)] []=some (.val (.t (.bool x)),[])∧(x=true→s≠[]):=by
 obtain⟨x,hx,-⟩:=zTE s;refine zJ zZk rfl ?_;cases s with
 |nil =>
  (have F_:=xa1;show W CC 0 10 (zA 289) _ ⟨[(0,_)],[]⟩ _)
  (repeat' first|refine gA ?_|refine gT ?_ ?_<;>intro hv<;>try cases hv;done|fail)
  all_goals refine aJ ?_<;>exact⟨_,⟨rfl,rfl⟩,by(intro h;simp_all)⟩
 |cons c r =>
  (have F_:=xa1;show W CC 0 10 (zA 289) _ ⟨[(0,_)],[]⟩ _)
  (repeat' first|refine gA ?_|refine gT ?_ ?_<;>intro hv<;>try cases hv;done|fail)
  all_goals refine aJ ?_<;>exact⟨_,⟨rfl,rfl⟩,fun _=>List.cons_ne_nil _ _⟩
def zRj(s:List Nat):∃t:List Nat,Om CC 313 [.t (.str s),.t (.str [45])] []=some (.val (.t (.str t)),[])∧(t.length≤s.length):=by
 refine zJ zYZ rfl ?_;have hp:=zQC s [45];cases hb:beqL (s.take 1) [45] with
 |true =>
  have hl:1≤s.length:=by
   cases s with
   |nil=>simp [beqL] at hb
   |cons=>simp
  rw[show (([45]:List Nat)).length=1 from rfl,hb] at hp;have hd:∀g,slice Tryz.prog g 9 (.t (.str s)) (some ((1:Nat):Int)) none none=some (.t (.str (s.drop 1))):=fun g=>zCZ (n:=1) hl
  have hdl:Hid ((s.drop 1).length≤s.length):=⟨by simp⟩
  generalize s.drop 1=d at hd hdl;clear hb hl
  (have F_:=c3 zD zVk zKD;show W CC 0 13 (zA 313) _ ⟨[(0,_),(1,_)],[]⟩ _)
  (refine gA ?_)
  all_goals refine aJ ?_<;>exact⟨_,⟨rfl,rfl⟩,hdl.h⟩
 |false =>
  rw[show (([45]:List Nat)).length=1 from rfl,hb] at hp;clear hb
  (have F_:=c3 zD zVk zKD;show W CC 0 13 (zA 313) _ ⟨[(0,_),(1,_)],[]⟩ _)
  (refine gA ?_)
  all_goals refine aJ ?_<;>exact⟨_,⟨rfl,rfl⟩,Nat.le_refl _⟩
def zU1(s:List Nat):∃t:List Nat,Om CC 288 [.t (.str s),.t (.str [45])] []=some (.val (.t (.str t)),[])∧(t.length≤s.length):=by
 refine zJ yAd rfl ?_;obtain⟨t,ht,hl⟩:=zRj s;have hl2:Hid _:=⟨hl⟩
 clear hl
 (have F_:=c3 zD yF4 yD4;show W CC 0 8 (zA 288) _ ⟨[(0,_),(1,_)],[]⟩ _)
 (refine gA ?_)
 all_goals refine aJ ?_<;>exact⟨_,⟨rfl,rfl⟩,hl2.h⟩
def zIm(s:List UInt8):(nb s).length=s.length:=by simp [nb]
def zH0(s:List Nat):(ub s).length=s.length:=by simp [ub]
def zX3(s:List Nat)(h:s.length<4294967281):∃(a b:List Nat) (c:Bool),CC.prim 287 [.t (.str s),.t (.str [46])]=some (.tup [.t (.str a),.t (.str b),.t (.bool c)])∧a.length≤s.length∧b.length≤s.length:=by
 refine⟨nb (Lib.cut (ub s) (ub [46])).1,nb (Lib.cut (ub s) (ub [46])).2.1,(Lib.cut (ub s) (ub [46])).2.2,?_,?_,?_⟩
 ·rw[zY9]
  show (bif Nat.blt s.length 4294967281 then _ else _)=_
  rw[show Nat.blt s.length 4294967281=true from by rw[Nat.blt_eq];exact h];rfl
 ·rw[zIm,← zH0 s];unfold Lib.cut;split
  ·simp only[List.length_take];omega
  exact Nat.le_refl _
 rw[zIm,← zH0 s];unfold Lib.cut;split
 ·simp only[List.length_drop];omega
 exact Nat.zero_le _
def zDo(s:List Nat)(h:s.length≤281474976710656):∃n:Int,(CC.prim 290 [.t (.str s),.t (.int .i64 10),.t (.int .i64 64)]=some (.tup [.t (.int .i64 n),.t .nilifc])∧R64 n) ∨
  CC.prim 290 [.t (.str s),.t (.int .i64 10),.t (.int .i64 64)]=some (.tup [.t (.int .i64 n),.ifx]):=by
 have e:CC.prim 290 [.t (.str s),.t (.int .i64 10),.t (.int .i64 64)]=(match Lib.parseIntB 64 (ub s) with
   |.ok v=>some (.tup [.t (.int .i64 v),.t .nilifc])
   |.range=>some (.tup [.t (.int .i64 (Lib.intSat 64 (ub s))),.ifx])
   |_=>some (.tup [.t (.int .i64 0),.ifx])):=by
  rw[zZe]
  show (bif Nat.ble s.length 281474976710656 then _ else _)=_
  rw[show Nat.ble s.length 281474976710656=true from (by rw[Nat.ble_eq];exact h)];rfl
 rw[e];cases hp:Lib.parseIntB 64 (ub s) with
 |ok v =>
  refine⟨v,.inl ⟨rfl,?_⟩⟩;unfold Lib.parseIntB at hp;split at hp
  ·cases hp
  dsimp only at hp;split at hp
  ·cases hp
  ·cases hp
  rename_i u _;split at hp
  ·cases hp
  split at hp
  ·cases hp
  rename_i h1 h2;simp only[Nat.reduceSub,Nat.reducePow] at h1 h2;cases hp;unfold R64;split<;>(rename_i h3;simp only[h3,not_true_eq_false,not_false_eq_true,true_and,false_and] at h1 h2;omega)
 |range=>exact⟨_,.inr rfl⟩
 |_=>exact⟨0,.inr rfl⟩
def yF{a b:List Nat}(h:a.length+b.length<4611686018427387904):binop Tryz.prog .add 9 (.t (.str a)) (.t (.str b))=some (.t (.str (a++b))):=by
 simp only[binop,zNG,h,if_true];rfl
def yAN:∃m,und Tryz.prog 188=some (.interface m):=by
 have h:(match und Tryz.prog 188 with|some (.interface _)=>true|_=>false)=true:=by kernel_rfl
 split at h
 ·exact⟨_,by assumption⟩
 cases h
def xa2:=c5 zF zG zQ zE (c5 zD zB zCw zDt (c5 zDJ zDE zDv zBU zDI))
def zPH(s:List Nat)(h:s.length≤1000000):∃r:Val×Int,Om CC 251 [.t (.str s)] []=some (.val (.tup [.t (.agg [.int .u8 r.1.k,.int .i64 r.1.n,.str r.1.s]),.t (.int .i64 r.2)]),[])∧(VOK r.1∧r.1.s=[]):=by
 refine zJ yA0 rfl ?_;obtain⟨_,he157⟩:=yAN;obtain⟨t,ht,hl⟩:=zU1 s;obtain⟨a,b,c,hc,ha,hb⟩:=zX3 t (by omega);obtain⟨da,hda,hda0⟩:=zJt a;obtain⟨db,hdb,-⟩:=zJt b;have hpf:=zHG s [45];rw[show (([45]:List Nat)).length=1 from rfl] at hpf;generalize beqL (s.take 1) [45]=p at hpf;have hsl:∀g,slice Tryz.prog g 9 (.t (.str (b++[48,48,48,48]))) none (some 4) none=some (.t (.str ((b++[48,48,48,48]).take 4))):=fun g=>zBF (n:=4) (by simp)
 have sa2:binop Tryz.prog .add 9 (.t (.str b)) (.t (.str [48,48,48,48]))=some (.t (.str (b++[48,48,48,48]))):=yF (by simp;omega);have hbl:((b++[48,48,48,48]).take 4).length≤4:=by rw[List.length_take];omega
 generalize (b++[48,48,48,48]).take 4=b4 at hsl hbl;have sa1:binop Tryz.prog .add 9 (.t (.str [45])) (.t (.str a))=some (.t (.str (45::a))):=yF (by simp;omega);have sa3:binop Tryz.prog .add 9 (.t (.str a)) (.t (.str b4))=some (.t (.str (a++b4))):=yF (by omega);have sa4:binop Tryz.prog .add 9 (.t (.str [45])) (.t (.str (a++b4)))=some (.t (.str (45::(a++b4)))):=yF (by simp;omega);have i1:Hid _:=⟨zDo a (by omega)⟩
 have i2:Hid _:=⟨zDo (45::a) (by simp;omega)⟩
 have i3:Hid _:=⟨zDo (a++b4) (by simp;omega)⟩
 have i4:Hid _:=⟨zDo (45::(a++b4)) (by simp;omega)⟩
 cases a with
 |nil =>
  cases da with
  |true=>exact absurd rfl (hda0 rfl)
  |false =>
   clear ha hb hda0 hl h i1 i2 i3 i4 hbl
   (have F_:=xa2;show W CC 0 67 (zA 251) _ ⟨[(0,_)],[]⟩ _)
   (refine gA ?_)
   all_goals refine aJ ?_<;>exact⟨(⟨1,0,[]⟩,4),⟨rfl,rfl⟩,yW 1 vX,rfl⟩
 |cons a0 ar =>
  have hix:index Tryz.prog 9 (.t (.str (a0::ar))) 0=some (.t (.int .u8 (a0:Int))):=jW (i:=0) rfl;generalize a0::ar=a at *;clear ha hb hda0 hl h hbl;cases c<;>cases p
  ·obtain⟨n,⟨h1,r1⟩|h1⟩:=i1.h
   ·have r2:Hid (R64 n):=⟨r1⟩
    clear r1 i1 i2 i3 i4
    (have F_:=xa2;show W CC 0 67 (zA 251) _ ⟨[(0,_)],[]⟩ _)
    (repeat' first|refine gA ?_|refine gT ?_ ?_<;>intro hv|fail)
    all_goals refine aJ ?_<;>(first|exact⟨(⟨1,0,[]⟩,4),⟨rfl,rfl⟩,yW 1 vX,rfl⟩|exact⟨(⟨1,n,[]⟩,0),⟨rfl,rfl⟩,yW 1 r2.h,rfl⟩|exact⟨(⟨2,n,[]⟩,0),⟨rfl,rfl⟩,yW 2 r2.h,rfl⟩)
   clear i1 i2 i3 i4
   (have F_:=xa2;show W CC 0 67 (zA 251) _ ⟨[(0,_)],[]⟩ _)
   (repeat' first|refine gA ?_|refine gT ?_ ?_<;>intro hv|fail)
   all_goals refine aJ ?_<;>(first|exact⟨(⟨1,0,[]⟩,4),⟨rfl,rfl⟩,yW 1 vX,rfl⟩|exact⟨(⟨1,0,[]⟩,9),⟨rfl,rfl⟩,yW 1 vX,rfl⟩|exact⟨(⟨2,0,[]⟩,9),⟨rfl,rfl⟩,yW 2 vX,rfl⟩)
  ·obtain⟨n,⟨h1,r1⟩|h1⟩:=i2.h
   ·have r2:Hid (R64 n):=⟨r1⟩
    clear r1 i1 i2 i3 i4
    (have F_:=xa2;show W CC 0 67 (zA 251) _ ⟨[(0,_)],[]⟩ _)
    (repeat' first|refine gA ?_|refine gT ?_ ?_<;>intro hv|fail)
    all_goals refine aJ ?_<;>(first|exact⟨(⟨1,0,[]⟩,4),⟨rfl,rfl⟩,yW 1 vX,rfl⟩|exact⟨(⟨1,n,[]⟩,0),⟨rfl,rfl⟩,yW 1 r2.h,rfl⟩|exact⟨(⟨2,n,[]⟩,0),⟨rfl,rfl⟩,yW 2 r2.h,rfl⟩)
   clear i1 i2 i3 i4
   (have F_:=xa2;show W CC 0 67 (zA 251) _ ⟨[(0,_)],[]⟩ _)
   (repeat' first|refine gA ?_|refine gT ?_ ?_<;>intro hv|fail)
   all_goals refine aJ ?_<;>(first|exact⟨(⟨1,0,[]⟩,4),⟨rfl,rfl⟩,yW 1 vX,rfl⟩|exact⟨(⟨1,0,[]⟩,9),⟨rfl,rfl⟩,yW 1 vX,rfl⟩|exact⟨(⟨2,0,[]⟩,9),⟨rfl,rfl⟩,yW 2 vX,rfl⟩)
  ·obtain⟨n,⟨h1,r1⟩|h1⟩:=i3.h
   ·have r2:Hid (R64 n):=⟨r1⟩
    clear r1 i1 i2 i3 i4
    (have F_:=xa2;show W CC 0 67 (zA 251) _ ⟨[(0,_)],[]⟩ _)
    (repeat' first|refine gA ?_|refine gT ?_ ?_<;>intro hv|fail)
    all_goals refine aJ ?_<;>(first|exact⟨(⟨1,0,[]⟩,4),⟨rfl,rfl⟩,yW 1 vX,rfl⟩|exact⟨(⟨1,n,[]⟩,0),⟨rfl,rfl⟩,yW 1 r2.h,rfl⟩|exact⟨(⟨2,n,[]⟩,0),⟨rfl,rfl⟩,yW 2 r2.h,rfl⟩)
   clear i1 i2 i3 i4
   (have F_:=xa2;show W CC 0 67 (zA 251) _ ⟨[(0,_)],[]⟩ _)
   (repeat' first|refine gA ?_|refine gT ?_ ?_<;>intro hv|fail)
   all_goals refine aJ ?_<;>(first|exact⟨(⟨1,0,[]⟩,4),⟨rfl,rfl⟩,yW 1 vX,rfl⟩|exact⟨(⟨1,0,[]⟩,9),⟨rfl,rfl⟩,yW 1 vX,rfl⟩|exact⟨(⟨2,0,[]⟩,9),⟨rfl,rfl⟩,yW 2 vX,rfl⟩)
  obtain⟨n,⟨h1,r1⟩|h1⟩:=i4.h
  ·have r2:Hid (R64 n):=⟨r1⟩
   clear r1 i1 i2 i3 i4
   (have F_:=xa2;show W CC 0 67 (zA 251) _ ⟨[(0,_)],[]⟩ _)
   (repeat' first|refine gA ?_|refine gT ?_ ?_<;>intro hv|fail)
   all_goals refine aJ ?_<;>(first|exact⟨(⟨1,0,[]⟩,4),⟨rfl,rfl⟩,yW 1 vX,rfl⟩|exact⟨(⟨1,n,[]⟩,0),⟨rfl,rfl⟩,yW 1 r2.h,rfl⟩|exact⟨(⟨2,n,[]⟩,0),⟨rfl,rfl⟩,yW 2 r2.h,rfl⟩)
  clear i1 i2 i3 i4
  (have F_:=xa2;show W CC 0 67 (zA 251) _ ⟨[(0,_)],[]⟩ _)
  (repeat' first|refine gA ?_|refine gT ?_ ?_<;>intro hv|fail)
  all_goals refine aJ ?_<;>(first|exact⟨(⟨1,0,[]⟩,4),⟨rfl,rfl⟩,yW 1 vX,rfl⟩|exact⟨(⟨1,0,[]⟩,9),⟨rfl,rfl⟩,yW 1 vX,rfl⟩|exact⟨(⟨2,0,[]⟩,9),⟨rfl,rfl⟩,yW 2 vX,rfl⟩)
def zEQ:∀(k u:Nat),u<10 ^ (k+1)→(Lib.decDigits u).length≤k+1∧1≤(Lib.decDigits u).length
 |0,u,h=>by rw[Lib.decDigits,dif_pos (by simpa using h)];simp
 |k+1,u,h=>by
  rw[Lib.decDigits];split
  ·simp
  have:=zEQ k (u / 10) (by rw[Nat.pow_succ] at h;omega);simp only[List.length_append,List.length_singleton];omega
def Byt(s:List Nat):Prop:=∀b ∈ s,b<256
theorem Byt.app{s t:List Nat}(h1:Byt s)(h2:Byt t):Byt (s++t):=fun b hb=>(List.mem_append.1 hb).elim (h1 b) (h2 b)
theorem Byt.cons{a:Nat}{t:List Nat}(h1:a<256)(h2:Byt t):Byt (a::t):=fun b hb=>(List.mem_cons.1 hb).elim (fun h=>h ▸ h1) (h2 b)
theorem Byt.nil:Byt []:=fun b hb=>by cases hb
theorem Byt.nb(l:List UInt8):Byt (Go.Ab.nb l):=fun b hb=>by
 obtain⟨x,-,rfl⟩:=List.mem_map.1 hb;exact x.toNat_lt
theorem Byt.drop{s:List Nat}(n:Nat)(h:Byt s):Byt (s.drop n):=fun b hb=>h b (List.mem_of_mem_drop hb)
theorem Byt.take{s:List Nat}(n:Nat)(h:Byt s):Byt (s.take n):=fun b hb=>h b (List.mem_of_mem_take hb)
def zHD(n:Int)(h:R64 n):∃s:List Nat,CC.prim 238 [.t (.int .i64 n),.t (.int .i64 10)]=some (.t (.str s))∧Byt s∧1≤s.length∧s.length≤20:=by
 refine⟨nb (Lib.itoa n),?_,Byt.nb _,?_⟩
 ·rw[zX6]
  show (bif decide (-9223372036854775808≤n)&&decide (n≤9223372036854775807) then _ else _)=_
  have h1:decide (-9223372036854775808≤n)=true:=by simpa using h.1
  have h2:decide (n≤9223372036854775807)=true:=by have:=h.2;simp;omega
  rw[h1,h2];rfl
 rw[zIm];unfold Lib.itoa;have:=h.1;have:=h.2;split
 ·have:=zEQ 18 n.natAbs (by simp;omega);simp only[List.length_cons];omega
 have:=zEQ 18 n.toNat (by simp;omega);omega
def zHP(old new:List UInt8):∀(k:Nat) (s:List UInt8),(Lib.replaceK old new k s).length≤s.length+k * new.length
 |0,s=>by simp [Lib.replaceK]
 |k+1,s=>by
  unfold Lib.replaceK;split
  ·omega
  have:=zHP old new k (s.drop ((Lib.index s old).toNat+old.length));simp only[List.length_append,List.length_take,List.length_drop] at *;have e:(k+1) * new.length=k * new.length+new.length:=Nat.succ_mul _ _;omega
def zHC(sub:List UInt8):∀(k:Nat) (s:List UInt8),Lib.countFrom sub k s≤k
 |0,s=>by simp [Lib.countFrom]
 |k+1,s=>by
  unfold Lib.countFrom;split
  ·omega
  have:=zHC sub k (s.drop ((Lib.index s sub).toNat+sub.length));omega
def zMs(s old new:List UInt8):(Lib.replaceAll s old new).length≤s.length+(s.length+1) * new.length:=by
 unfold Lib.replaceAll Lib.replace;split
 ·omega
 have h1:=zHP old new (Lib.replaceNum s old (-1)) s;have h2:Lib.replaceNum s old (-1)≤s.length+1:=by
  unfold Lib.replaceNum;rw[if_pos (.inl (by decide))];exact zHC old (s.length+1) s
 have h3:=Nat.mul_le_mul_right new.length h2;omega
def zGG (s a b:List Nat) (ha:1≤a.length) (hs:s.length≤100000000) (hb:b.length≤2) :
  ∃r:List Nat,CC.prim 273 [.t (.str s),.t (.str a),.t (.str b)]=some (.t (.str r))∧Byt r∧r.length≤s.length+(s.length+1) * 2:=by
 refine⟨nb (Lib.replaceAll (ub s) (ub a) (ub b)),?_,Byt.nb _,?_⟩
 ·rw[zYh]
  show (bif Nat.blt s.length 4294967281&&Nat.ble 1 a.length&&Nat.ble (s.length+(s.length+1) * b.length) 140737488355328 then _ else _)=_
  have h3:(s.length+1) * b.length≤(s.length+1) * 2:=Nat.mul_le_mul_left _ hb;rw[show Nat.blt s.length 4294967281=true from by rw[Nat.blt_eq];omega,show Nat.ble 1 a.length=true from (by rw[Nat.ble_eq];exact ha),
   show Nat.ble (s.length+(s.length+1) * b.length) 140737488355328=true from (by rw[Nat.ble_eq];omega)]
  rfl
 have:=zMs (ub s) (ub a) (ub b);rw[zIm];rw[zH0,zH0] at this;have h3:(s.length+1) * b.length≤(s.length+1) * 2:=Nat.mul_le_mul_left _ hb;omega
def zNw(s:List Nat)(h:s.length≤9223372036854775807):∃r:List Nat,CC.prim 272 [.t (.str s),.t (.str [48])]=some (.t (.str r))∧Byt r∧r.length≤s.length:=by
 refine⟨nb (Lib.trimRightB (ub s) (UInt8.ofNat 48)),?_,Byt.nb _,by
  rw[zIm,← zH0 s];unfold Lib.trimRightB;rw[List.length_reverse];have:=(List.dropWhile_sublist (fun x=>x==UInt8.ofNat 48) (l:=(ub s).reverse)).length_le;rw[List.length_reverse] at this;exact this⟩
 rw[yAV]
 show (bif Nat.blt 48 128&&Nat.ble s.length 9223372036854775807 then _ else _)=_
 rw[show Nat.ble s.length 9223372036854775807=true from (by rw[Nat.ble_eq];exact h)];rfl
def zRI(s:List Nat)(h:s.length≤10000000):∃r:List Nat,Om CC 240 [.t (.str s)] []=some (.val (.t (.str r)),[])∧Byt r:=by
 refine zJ yAD rfl ?_;obtain⟨r1,h1,-,l1⟩:=zGG s [92] [92,92] (by simp) (by omega) (by simp);obtain⟨r2,h2,b2,l2⟩:=zGG r1 [34] [92,34] (by simp) (by omega) (by simp);have sa1:binop Tryz.prog .add 9 (.t (.str [34])) (.t (.str r2))=some (.t (.str (34::r2))):=yF (by simp;omega);have sa2:binop Tryz.prog .add 9 (.t (.str (34::r2))) (.t (.str [34]))=some (.t (.str ((34::r2)++[34]))):=yF (by simp;omega);have hB:Hid _:=⟨((Byt.cons (by decide) b2).app (Byt.cons (by decide) Byt.nil):Byt ((34::r2)++[34]))⟩
 clear l1 l2 h b2
 (have F_:=c3 zD yFD yDH;show W CC 0 8 (zA 240) _ ⟨[(0,_)],[]⟩ _)
 (repeat' first|refine gA ?_|refine gT ?_ ?_<;>intro hv<;>try cases hv;done|fail)
 all_goals refine aJ ?_<;>exact⟨_,⟨rfl,rfl⟩,hB.h⟩
def yAl(b:Bool):∃r:List Nat,Om CC 274 [.t (.bool b)] []=some (.val (.t (.str r)),[])∧Byt r:=by
 refine zJ yBa rfl ?_
 (have F_:=c2 zQ yEM;show W CC 0 4 (zA 274) _ ⟨[(0,_)],[]⟩ _)
 (repeat' first|refine gA ?_|refine gT ?_ ?_<;>intro hv<;>try cases hv;done|fail)
 all_goals refine aJ ?_<;>exact⟨_,⟨rfl,rfl⟩,by unfold Byt;decide⟩
def yEe(b:Bool):∃r:List Nat,Om CC 241 [.t (.bool b)] []=some (.val (.t (.str r)),[])∧Byt r:=by
 refine zJ yA1 rfl ?_;obtain⟨r,hr,hrb⟩:=yAl b;have hB:=Hid.mk hrb;clear hrb
 (have F_:=c3 zQ yCt yEJ;show W CC 0 5 (zA 241) _ ⟨[(0,_)],[]⟩ _)
 (repeat' first|refine gA ?_|refine gT ?_ ?_<;>intro hv<;>try cases hv;done|fail)
 all_goals refine aJ ?_<;>exact⟨_,⟨rfl,rfl⟩,hB.h⟩
def zPA(n:Int)(h:R64 n):∃r:List Nat,Om CC 239 [.t (.int .i64 n)] []=some (.val (.t (.str r)),[])∧Byt r:=by
 refine zJ yA2 rfl ?_;obtain⟨s,hs,b1,l1,l2⟩:=zHD n h;have hsl:∀g,slice Tryz.prog g 9 (.t (.str s)) (some 1) none none=some (.t (.str (s.drop 1))):=fun g=>zCZ (n:=1) l1
 have l3:(s.drop 1).length≤20:=by simp;omega
 have b3:=b1.drop 1;generalize s.drop 1=s1 at hsl l3 b3;have l12:Hid _:=⟨And.intro l2 b1⟩
 have l13:Hid _:=⟨And.intro l3 b3⟩
 clear h l1 l2 l3 b1 b3
 (have F_:=c5 zF zG zD yBE (c2 zVr yF3);show W CC 0 35 (zA 239) _ ⟨[(0,_)],[]⟩ _)
 (repeat' first|refine gA ?_|refine gT ?_ ?_<;>intro hv<;>try cases hv;done|fail)
 ·refine zY (α:=List Nat) (fun cur=>⟨[(3,.t (.str cur)),(4,.t (.str [45]))],[]⟩) (fun cur=>5 - cur.length) (fun cur=>cur.length≤20∧Byt cur) s1 (by kernel_rfl) l13.h ?_;rintro cur ⟨hcur,hby⟩;have hby:=Hid.mk hby
  by_cases hl:cur.length<5
  ·have hd:decide ((cur.length:Int)<5)=true:=by simp;omega
   have sa1:binop Tryz.prog .add 9 (.t (.str [48])) (.t (.str cur))=some (.t (.str (48::cur))):=yF (by simp;omega)
   (repeat' first|refine gA ?_|refine gT ?_ ?_<;>intro hv<;>try cases hv;done|fail)
   exact zC (48::cur) (by show 5 - (48::cur).length<5 - cur.length;simp only[List.length_cons];omega) ⟨(by show (48::cur).length≤20;simp only[List.length_cons];omega),Byt.cons (by decide) hby.h⟩ (by kernel_rfl)
  have hd:decide ((cur.length:Int)<5)=false:=by simp;omega
  have hw:IntKind.i64.wrap ((cur.length:Int) - 4)=((cur.length - 4:Nat):Int):=by rw[wrap64]<;>omega
  have hs1:∀g,slice Tryz.prog g 9 (.t (.str cur)) (some ((cur.length - 4:Nat):Int)) none none=some (.t (.str (cur.drop (cur.length - 4)))):=fun g=>zCZ (by omega)
  have hs2:∀g,slice Tryz.prog g 9 (.t (.str cur)) none (some ((cur.length - 4:Nat):Int)) none=some (.t (.str (cur.take (cur.length - 4)))):=fun g=>zBF (by omega)
  have hdl:(cur.drop (cur.length - 4)).length≤20:=by simp;omega
  generalize cur.drop (cur.length - 4)=d at hs1 hdl;have hel:(cur.take (cur.length - 4)).length≤20:=by simp;omega
  have hbe:=hby.h.take (cur.length - 4);generalize cur.take (cur.length - 4)=e at hs2 hel hbe;obtain⟨r,hr,hrb,hrl⟩:=zNw d (by omega);have sa1:binop Tryz.prog .add 9 (.t (.str [45])) (.t (.str e))=some (.t (.str ([45]++e))):=yF (by simp;omega);have sa2:binop Tryz.prog .add 9 (.t (.str ([45]++e))) (.t (.str [46]))=some (.t (.str (([45]++e)++[46]))):=yF (by simp;omega);have sa3:binop Tryz.prog .add 9 (.t (.str (([45]++e)++[46]))) (.t (.str r))=some (.t (.str ((([45]++e)++[46])++r))):=yF (by simp;omega);have sa4:binop Tryz.prog .add 9 (.t (.str (([45]++e)++[46]))) (.t (.str [48]))=some (.t (.str ((([45]++e)++[46])++[48]))):=yF (by simp;omega);have hB:Byt ((([45]++e)++[46])++r)∧Byt ((([45]++e)++[46])++[48]):=by
   have q:Byt (([45]++e)++[46]):=((show Byt [45] by unfold Byt;decide).app hbe).app (by unfold Byt;decide);exact⟨q.app hrb,q.app (by unfold Byt;decide)⟩
  clear hrb hbe;generalize (([45]++e)++[46])++r=o1 at sa3 hB;generalize (([45]++e)++[46])++[48]=o2 at sa4 hB;have hB:=Hid.mk hB;generalize ([45]++e)++[46]=o3 at sa2 sa3 sa4;generalize [45]++e=o4 at sa1 sa2;clear hdl hrl hel;generalize cur.length - 4=m at hw hs1 hs2
  (repeat' first|refine gA ?_|refine gT ?_ ?_<;>intro hv<;>try cases hv;done|fail)
  all_goals refine aJ ?_<;>(first|exact⟨_,⟨rfl,rfl⟩,hB.h.1⟩|exact⟨_,⟨rfl,rfl⟩,hB.h.2⟩)
 refine zY (α:=List Nat) (fun cur=>⟨[(3,.t (.str cur)),(4,.t (.str []))],[]⟩) (fun cur=>5 - cur.length) (fun cur=>cur.length≤20∧Byt cur) s (by kernel_rfl) l12.h ?_;rintro cur ⟨hcur,hby⟩;have hby:=Hid.mk hby
 by_cases hl:cur.length<5
 ·have hd:decide ((cur.length:Int)<5)=true:=by simp;omega
  have sa1:binop Tryz.prog .add 9 (.t (.str [48])) (.t (.str cur))=some (.t (.str (48::cur))):=yF (by simp;omega)
  (repeat' first|refine gA ?_|refine gT ?_ ?_<;>intro hv<;>try cases hv;done|fail)
  exact zC (48::cur) (by show 5 - (48::cur).length<5 - cur.length;simp only[List.length_cons];omega) ⟨(by show (48::cur).length≤20;simp only[List.length_cons];omega),Byt.cons (by decide) hby.h⟩ (by kernel_rfl)
 have hd:decide ((cur.length:Int)<5)=false:=by simp;omega
 have hw:IntKind.i64.wrap ((cur.length:Int) - 4)=((cur.length - 4:Nat):Int):=by rw[wrap64]<;>omega
 have hs1:∀g,slice Tryz.prog g 9 (.t (.str cur)) (some ((cur.length - 4:Nat):Int)) none none=some (.t (.str (cur.drop (cur.length - 4)))):=fun g=>zCZ (by omega)
 have hs2:∀g,slice Tryz.prog g 9 (.t (.str cur)) none (some ((cur.length - 4:Nat):Int)) none=some (.t (.str (cur.take (cur.length - 4)))):=fun g=>zBF (by omega)
 have hdl:(cur.drop (cur.length - 4)).length≤20:=by simp;omega
 generalize cur.drop (cur.length - 4)=d at hs1 hdl;have hel:(cur.take (cur.length - 4)).length≤20:=by simp;omega
 have hbe:=hby.h.take (cur.length - 4);generalize cur.take (cur.length - 4)=e at hs2 hel hbe;obtain⟨r,hr,hrb,hrl⟩:=zNw d (by omega);have sa1:binop Tryz.prog .add 9 (.t (.str ([]:List Nat))) (.t (.str e))=some (.t (.str (([]:List Nat)++e))):=yF (by simp;omega);have sa2:binop Tryz.prog .add 9 (.t (.str (([]:List Nat)++e))) (.t (.str [46]))=some (.t (.str ((([]:List Nat)++e)++[46]))):=yF (by simp;omega);have sa3:binop Tryz.prog .add 9 (.t (.str ((([]:List Nat)++e)++[46]))) (.t (.str r))=some (.t (.str (((([]:List Nat)++e)++[46])++r))):=yF (by simp;omega);have sa4:binop Tryz.prog .add 9 (.t (.str ((([]:List Nat)++e)++[46]))) (.t (.str [48]))=some (.t (.str (((([]:List Nat)++e)++[46])++[48]))):=yF (by simp;omega);have hB:Byt (((([]:List Nat)++e)++[46])++r)∧Byt (((([]:List Nat)++e)++[46])++[48]):=by
  have q:Byt ((([]:List Nat)++e)++[46]):=((show Byt ([]:List Nat) by unfold Byt;decide).app hbe).app (by unfold Byt;decide);exact⟨q.app hrb,q.app (by unfold Byt;decide)⟩
 clear hrb hbe;generalize ((([]:List Nat)++e)++[46])++r=o1 at sa3 hB;generalize ((([]:List Nat)++e)++[46])++[48]=o2 at sa4 hB;have hB:=Hid.mk hB;generalize (([]:List Nat)++e)++[46]=o3 at sa2 sa3 sa4;generalize ([]:List Nat)++e=o4 at sa1 sa2;clear hdl hrl hel;generalize cur.length - 4=m at hw hs1 hs2
 (repeat' first|refine gA ?_|refine gT ?_ ?_<;>intro hv<;>try cases hv;done|fail)
 all_goals refine aJ ?_<;>(first|exact⟨_,⟨rfl,rfl⟩,hB.h.1⟩|exact⟨_,⟨rfl,rfl⟩,hB.h.2⟩)
def zBa(v:Val)(hn:R64 v.n)(hs:v.s.length≤10000000):∃r:List Nat,Om CC 195 [.t (.agg [.int .u8 v.k,.int .i64 v.n,.str v.s])] []=some (.val (.t (.str r)),[])∧(Byt v.s→Byt r):=by
 refine zJ yAO rfl ?_;obtain⟨r1,h1,b1,-⟩:=zHD v.n hn;obtain⟨r2,h2,b2⟩:=zPA v.n hn;obtain⟨r3,h3,b3⟩:=zRI v.s hs;obtain⟨r4,h4,b4⟩:=yEe (v.n==1);have sa:binop Tryz.prog .add 9 (.t (.str [35])) (.t (.str v.s))=some (.t (.str (35::v.s))):=yF (by simp;omega);have hB:=Hid.mk (And.intro b1 (And.intro b2 (And.intro b3 b4)));clear hn hs b1 b2 b3 b4
 (have F_:=c5 zF zG zQ zE (c5 zD zB yBP zUn (c5 zVr yDf yC1 yCs @zQ8));show W CC 0 34 (zA 195) _ ⟨[(0,_)],[]⟩ _)
 (repeat' first|refine gA ?_|refine gT ?_ ?_<;>intro hv<;>try cases hv;done|fail)
 all_goals refine aJ ?_<;>(first|exact⟨_,⟨rfl,rfl⟩,fun _=>hB.h.1⟩|exact⟨_,⟨rfl,rfl⟩,fun _=>hB.h.2.1⟩|exact⟨_,⟨rfl,rfl⟩,fun _=>hB.h.2.2.1⟩|exact⟨_,⟨rfl,rfl⟩,fun _=>hB.h.2.2.2⟩|exact⟨_,⟨rfl,rfl⟩,fun h=>Byt.cons (by decide) h⟩|exact⟨_,⟨rfl,rfl⟩,fun _=>by unfold Byt;decide⟩)
def zOY:Om CC 250 [] []=some (.val (.mp 0),[.map [(.int .u8 34,.t (.agg [.fn 285])),(.int .u8 35,.t (.agg [.fn 284])),(.int .u8 116,.t (.agg [.fn 286])),(.int .u8 102,.t (.agg [.fn 286])),(.int .u8 110,.t (.agg [.fn 286]))]]) :=
 jR (n:=200) (by kernel_rfl)
def zL6:∀s:List Nat,(unq s).length≤s.length
 |[]=>by simp [unq]
 |[_]=>by simp [unq]
 |c::d::r=>by
  unfold unq;split
  ·have:=zL6 r;simp only[List.length_cons];omega
  have:=zL6 (d::r);simp only[List.length_cons] at *;omega
def zR6(s:List Nat)(h:s.length≤4294967296):CC.prim 285 [.t (.str s)]=some (.tup [.t (.agg [.int .u8 3,.int .i64 0,.str (unq (s.drop 1))]),.t (.int .i64 0)]):=by
 rw[zXW]
 show (bif Nat.ble s.length 4294967296 then _ else _)=_
 rw[show Nat.ble s.length 4294967296=true from (by rw[Nat.ble_eq];exact h)];rfl
def txq{tx s:List Nat}{a b:Bool}{A:List AV}(hv:a=b)(h:Om CC 195 A []=some (.val (.t (.str tx)),[]))(q:a=b→tx=s:=by(intro h;simpa [vC] using h)){x:Int}:x=0→Om CC 195 A []=some (.val (.t (.str s)),[]):=fun _=>by rw[← q hv];exact h
def xa3:=c5 zF zG zQ zE (c5 zD zB zU zEs (c5 zEv zEu zEr zEH (c5 zEx zEp zEF zEB jB)))
def zGW(s:List Nat)(hs:s.length<9223372036854775808):∃r:Val×Int,Om CC 201 [.t (.str s)] []=some (.val (.tup [.t (.agg [.int .u8 r.1.k,.int .i64 r.1.n,.str r.1.s]),.t (.int .i64 r.2)]),[])∧(VOK r.1∧r.1.s.length≤402∧(r.2=0→Om CC 195 [.t (.agg [.int .u8 r.1.k,.int .i64 r.1.n,.str r.1.s])] []=some (.val (.t (.str s)),[]))):=by
 refine zJ yBe rfl ?_
 by_cases h:402<s.length
 ·have hd:decide ((s.length:Int) > 402)=true:=by simp;omega
  clear hs h
  (have F_:=xa3;show W CC 0 46 (zA 201) _ ⟨[(0,_)],[]⟩ _)
  (refine gA ?_)
  all_goals refine aJ ?_<;>exact⟨(Zero,3),⟨rfl,rfl⟩,yR,by simp [Zero],fun h=>by simp at h⟩
 have hd:decide ((s.length:Int) > 402)=false:=by simp;omega
 cases s with
 |nil =>
  clear hs h
  (have F_:=xa3;show W CC 0 46 (zA 201) _ ⟨[(0,_)],[]⟩ _)
  (repeat' first|refine gA ?_|refine gT ?_ ?_<;>intro hv<;>try cases hv;done|fail)
  all_goals refine aJ ?_<;>exact⟨(Zero,4),⟨rfl,rfl⟩,yR,by simp [Zero],fun h=>by simp at h⟩
 |cons c r =>
  have hrd:=zOY;have hix:index Tryz.prog 9 (.t (.str (c::r))) 0=some (.t (.int .u8 (c:Int))):=jW (i:=0) rfl;have hne:beqL (c::r) []=false:=rfl;have hsl:(c::r).length≤402:=by omega
  have hone:1≤(c::r).length:=by simp
  generalize c::r=s at *;clear h hs;have z1:decide (1+(0 - 0)<1)=false:=by decide
  have hz:zBS Tryz.prog 307=some (.t (.agg [.nilfn])):=by kernel_rfl
  by_cases c34:c=34
  ·have k1:((c:Int)==34)=true:=by simp [c34]
   have hrp:=zR6 s (by omega);have hul:(unq (s.drop 1)).length≤402:=by have:=zL6 (s.drop 1);rw[List.length_drop] at this;omega
   generalize unq (s.drop 1)=u at hrp hul;obtain⟨tx,htx,-⟩:=zBa ⟨3,0,u⟩ vX (by show u.length≤10000000;omega);dsimp only at htx;have hvv:Hid (VOK ⟨3,0,u⟩∧u.length≤402):=⟨⟨vX,by show u.length<4294967281;omega⟩,hul⟩
   clear hul hsl hone c34
   (have F_:=xa3;show W CC 0 46 (zA 201) _ ⟨[(0,_)],[]⟩ _)
   (repeat' first|refine gA ?_|refine gT ?_ ?_<;>intro hv|fail)
   all_goals refine aJ ?_<;>(first|exact⟨(Zero,4),⟨rfl,rfl⟩,yR,by simp [Zero],fun h=>by simp at h⟩|exact⟨(⟨3,0,u⟩,0),⟨rfl,rfl⟩,hvv.h.1,hvv.h.2,txq hv htx⟩)
  have k1:((c:Int)==34)=false:=by simp;omega
  by_cases c35:c=35
  ·have k2:((c:Int)==35)=true:=by simp [c35]
   have hrp:=zV7 s hone;have hul:(s.drop 1).length≤402:=by rw[List.length_drop];omega
   generalize s.drop 1=u at hrp hul;obtain⟨tx,htx,-⟩:=zBa ⟨5,0,u⟩ vX (by show u.length≤10000000;omega);dsimp only at htx;have hvv:Hid (VOK ⟨5,0,u⟩∧u.length≤402):=⟨⟨vX,by show u.length<4294967281;omega⟩,hul⟩
   clear hul hsl hone c34 c35
   (have F_:=xa3;show W CC 0 46 (zA 201) _ ⟨[(0,_)],[]⟩ _)
   (repeat' first|refine gA ?_|refine gT ?_ ?_<;>intro hv|fail)
   all_goals refine aJ ?_<;>(first|exact⟨(Zero,4),⟨rfl,rfl⟩,yR,by simp [Zero],fun h=>by simp at h⟩|exact⟨(⟨5,0,u⟩,0),⟨rfl,rfl⟩,hvv.h.1,hvv.h.2,txq hv htx⟩)
  have k2:((c:Int)==35)=false:=by simp;omega
  have hword:(∃r:Val×Int,Om CC 286 [.t (.str s)] []=some (.val (.tup [.t (.agg [.int .u8 r.1.k,.int .i64 r.1.n,.str r.1.s]),.t (.int .i64 r.2)]),[])∧VOK r.1∧r.1.s=[]):=zTR s;have hnum:(∃r:Val×Int,Om CC 251 [.t (.str s)] []=some (.val (.tup [.t (.agg [.int .u8 r.1.k,.int .i64 r.1.n,.str r.1.s]),.t (.int .i64 r.2)]),[])∧VOK r.1∧r.1.s=[]):=zPH s (by omega);clear hsl hone c34 c35;have fin:∀k:Int,∀n:Int,VOK ⟨k,n,[]⟩→VOK ⟨k,n,[]⟩∧([]:List Nat).length≤402:=fun k n h=>⟨h,by simp⟩
  by_cases c116:c=116
  ·have k3:((c:Int)==116)=true:=by simp [c116]
   clear c116;obtain⟨⟨⟨vk,vn,vs⟩,ve⟩,hr,hv,he⟩:=hword;dsimp only at hr hv he;subst he;obtain⟨tx,htx,-⟩:=zBa ⟨vk,vn,[]⟩ hv.1 (by simp);dsimp only at htx;have hv2:Hid (VOK ⟨vk,vn,[]⟩):=⟨hv⟩
   clear hnum hv fin
   (have F_:=xa3;show W CC 0 46 (zA 201) _ ⟨[(0,_)],[]⟩ _)
   (repeat' first|refine gA ?_|refine gT ?_ ?_<;>intro hv|fail)
   all_goals refine aJ ?_<;>(first|exact⟨(Zero,4),⟨rfl,rfl⟩,yR,by simp [Zero],fun h=>by simp at h⟩|exact⟨(⟨vk,vn,[]⟩,0),⟨rfl,rfl⟩,hv2.h,by simp,txq hv htx⟩|exact⟨(Zero,ve),⟨rfl,rfl⟩,yR,by simp [Zero],fun h=>by simp_all⟩)
  have k3:((c:Int)==116)=false:=by simp;omega
  by_cases c102:c=102
  ·have k4:((c:Int)==102)=true:=by simp [c102]
   clear c116 c102;obtain⟨⟨⟨vk,vn,vs⟩,ve⟩,hr,hv,he⟩:=hword;dsimp only at hr hv he;subst he;obtain⟨tx,htx,-⟩:=zBa ⟨vk,vn,[]⟩ hv.1 (by simp);dsimp only at htx;have hv2:Hid (VOK ⟨vk,vn,[]⟩):=⟨hv⟩
   clear hnum hv fin
   (have F_:=xa3;show W CC 0 46 (zA 201) _ ⟨[(0,_)],[]⟩ _)
   (repeat' first|refine gA ?_|refine gT ?_ ?_<;>intro hv|fail)
   all_goals refine aJ ?_<;>(first|exact⟨(Zero,4),⟨rfl,rfl⟩,yR,by simp [Zero],fun h=>by simp at h⟩|exact⟨(⟨vk,vn,[]⟩,0),⟨rfl,rfl⟩,hv2.h,by simp,txq hv htx⟩|exact⟨(Zero,ve),⟨rfl,rfl⟩,yR,by simp [Zero],fun h=>by simp_all⟩)
  have k4:((c:Int)==102)=false:=by simp;omega
  by_cases c110:c=110
  ·have k5:((c:Int)==110)=true:=by simp [c110]
   clear c116 c102 c110;obtain⟨⟨⟨vk,vn,vs⟩,ve⟩,hr,hv,he⟩:=hword;dsimp only at hr hv he;subst he;obtain⟨tx,htx,-⟩:=zBa ⟨vk,vn,[]⟩ hv.1 (by simp);dsimp only at htx;have hv2:Hid (VOK ⟨vk,vn,[]⟩):=⟨hv⟩
   clear hnum hv fin
   (have F_:=xa3;show W CC 0 46 (zA 201) _ ⟨[(0,_)],[]⟩ _)
   (repeat' first|refine gA ?_|refine gT ?_ ?_<;>intro hv|fail)
   all_goals refine aJ ?_<;>(first|exact⟨(Zero,4),⟨rfl,rfl⟩,yR,by simp [Zero],fun h=>by simp at h⟩|exact⟨(⟨vk,vn,[]⟩,0),⟨rfl,rfl⟩,hv2.h,by simp,txq hv htx⟩|exact⟨(Zero,ve),⟨rfl,rfl⟩,yR,by simp [Zero],fun h=>by simp_all⟩)
  have k5:((c:Int)==110)=false:=by simp;omega
  clear c116 c102 c110;obtain⟨⟨⟨vk,vn,vs⟩,ve⟩,hr,hv,he⟩:=hnum;dsimp only at hr hv he;subst he;obtain⟨tx,htx,-⟩:=zBa ⟨vk,vn,[]⟩ hv.1 (by simp);dsimp only at htx;have hv2:Hid (VOK ⟨vk,vn,[]⟩):=⟨hv⟩
  clear hword hv fin
  (have F_:=xa3;show W CC 0 46 (zA 201) _ ⟨[(0,_)],[]⟩ _)
  (repeat' first|refine gA ?_|refine gT ?_ ?_<;>intro hv|fail)
  all_goals refine aJ ?_<;>(first|exact⟨(Zero,4),⟨rfl,rfl⟩,yR,by simp [Zero],fun h=>by simp at h⟩|exact⟨(⟨vk,vn,[]⟩,0),⟨rfl,rfl⟩,hv2.h,by simp,txq hv htx⟩|exact⟨(Zero,ve),⟨rfl,rfl⟩,yR,by simp [Zero],fun h=>by simp_all⟩)
end Go.Ab
