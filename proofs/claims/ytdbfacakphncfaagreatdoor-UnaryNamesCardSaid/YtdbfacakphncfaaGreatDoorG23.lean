/- Lemmas. -/
import Derived.Test.YtdbfacakphncfaaGreatDoorG18
import Derived.Test.YtdbfacakphncfaaGreatDoorG06
set_option maxRecDepth 1000000
set_option maxHeartbeats 40000000
set_option linter.all false
namespace Go.Ab
open Go.Proofs
attribute [local irreducible] W RW RR
def zWw(s:List Nat)(h:1≤s.length):Om CC 195 [.t (.str s)] []=some (.val (.tup [.t (.agg [.int .u8 5,.int .i64 0,.str (s.drop 1)]),.t (.int .i64 0)]),[]):=by
 have hm:∀g,slice Tryz.prog g 9 (.t (.str s)) (some 1) none none=some (.t (.str (s.drop 1))):=fun g=>zCx (n:=1) h
 generalize s.drop 1=d at *;refine zL yBl rfl ?_
 (have F_:=c5 zF zE zC zB yFI;show W CC 0 7 (zA 195) _ ⟨[(0,_)],[]⟩ _)
 (refine gA ?_)
 all_goals refine aK ?_ ?_<;>(first|rfl)
def zWp(b:Bool):(uF b).s=[]:=by
 have h:∃k n,Om CC 87 [.t (.bool b)] []=some (.val (.t (.agg [.int .u8 k,.int .i64 n,.str []])),[]):=by
  cases b
  ·exact⟨4,0,vK (n:=200) (by kernel_rfl)⟩
  exact⟨4,1,vK (n:=200) (by kernel_rfl)⟩
 obtain⟨k,n,h⟩:=h;have h:=(qD b).symm.trans h;generalize uF b=x at h;obtain⟨k,n,s⟩:=x;cases h
 rfl
def zVv(s:List Nat):∃r:Val×Int,Om CC 197 [.t (.str s)] []=some (.val (.tup [.t (.agg [.int .u8 r.1.k,.int .i64 r.1.n,.str r.1.s]),.t (.int .i64 r.2)]),[])∧VOK r.1∧r.1.s=[]:=by
 refine zJ zYJ rfl ?_;generalize beqL s [116,114,117,101]=b1 at *
 (have F_:=c5 zF zP zE zC (c3 zB yEv (c2 zEa @qD));show W CC 0 15 (zA 197) _ ⟨[(0,_)],[]⟩ _)
 (repeat' first|refine gA ?_|refine gT ?_ ?_<;>intro hv|fail)
 all_goals refine aJ ?_<;>(first|exact⟨(⟨0,0,[]⟩,_),⟨rfl,rfl⟩,yX,rfl⟩|exact⟨(uF _,0),⟨rfl,rfl⟩,zCz _,zWp _⟩)
def zJ1(r:Int):∃x:Bool,Om CC 235 [.t (.int .i32 r)] []=some (.val (.t (.bool x)),[])∧(True):=by
 refine zJ zYt rfl ?_
 (have F_:=c2 zHg yFr;show W CC 0 9 (zA 235) _ ⟨[(0,_)],[]⟩ _)
 (repeat' first|refine gA ?_|refine gT ?_ ?_<;>intro hv|fail)
 all_goals refine aJ ?_<;>exact⟨_,⟨rfl,rfl⟩,by trivial⟩
noncomputable def zQT(r:Int):Bool:=(zJ1 r).choose
def zSr(r:Int):Om CC 235 [.t (.int .i32 r)] []=some (.val (.t (.bool (zQT r))),[]):=(zJ1 r).choose_spec.1
def yHP(s:List Nat):∃x:Int,Om CC 285 [.t (.str s),.t (.fn 235),.t (.bool true)] []=some (.val (.t (.int .i64 x)),[])∧True :=
 zEG _ yD8 (fun x=>zX _ x (by decide)) zQT zSr s true
def xa1:=c5 zP zC kZ zMy zLK
def zTB(s:List Nat):∃x:Int,Om CC 263 [.t (.str s),.t (.fn 235)] []=some (.val (.t (.int .i64 x)),[])∧(True):=by
 obtain⟨x,hx,-⟩:=yHP s;refine zJ zJG rfl ?_
 (have F_:=xa1;show W CC 0 8 (zA 263) _ ⟨[(0,_),(1,_)],[]⟩ _)
 (refine gA ?_)
 all_goals refine aJ ?_<;>exact⟨_,⟨rfl,rfl⟩,by trivial⟩
def xa2:=c5 zG zC kZ zLP zLR
def zVf(s:List Nat):∃x:Bool,Om CC 234 [.t (.str s),.t (.fn 235)] []=some (.val (.t (.bool x)),[])∧(True):=by
 obtain⟨x,hx,-⟩:=zTB s;refine zJ zJn rfl ?_
 (have F_:=xa2;show W CC 0 9 (zA 234) _ ⟨[(0,_),(1,_)],[]⟩ _)
 (refine gA ?_)
 all_goals refine aJ ?_<;>exact⟨_,⟨rfl,rfl⟩,by trivial⟩
def xa3:=c5 zP zC kZ zT4 zIm
def zJY(s:List Nat):∃x:Bool,Om CC 200 [.t (.str s)] []=some (.val (.t (.bool x)),[])∧(x=true→s≠[]):=by
 obtain⟨x,hx,-⟩:=zVf s;refine zJ zZW rfl ?_;cases s with
 |nil =>
  (have F_:=xa3;show W CC 0 10 (zA 200) _ ⟨[(0,_)],[]⟩ _)
  (repeat' first|refine gA ?_|refine gT ?_ ?_<;>intro hv<;>try cases hv;done|fail)
  all_goals refine aJ ?_<;>exact⟨_,⟨rfl,rfl⟩,by(intro h;simp_all)⟩
 |cons c r =>
  (have F_:=xa3;show W CC 0 10 (zA 200) _ ⟨[(0,_)],[]⟩ _)
  (repeat' first|refine gA ?_|refine gT ?_ ?_<;>intro hv<;>try cases hv;done|fail)
  all_goals refine aJ ?_<;>exact⟨_,⟨rfl,rfl⟩,fun _=>List.cons_ne_nil _ _⟩
def zSs(s:List Nat):∃t:List Nat,Om CC 233 [.t (.str s),.t (.str [45])] []=some (.val (.t (.str t)),[])∧(t.length≤s.length):=by
 refine zJ zYP rfl ?_;have hp:=zRj s [45];cases hb:beqL (s.take 1) [45] with
 |true =>
  have hl:1≤s.length:=by
   cases s with
   |nil=>simp [beqL] at hb
   |cons=>simp
  rw[show (([45]:List Nat)).length=1 from rfl,hb] at hp;have hd:∀g,slice Tryz.prog g 9 (.t (.str s)) (some ((1:Nat):Int)) none none=some (.t (.str (s.drop 1))):=fun g=>zCx (n:=1) hl
  have ho:Hid ((s.drop 1).length≤s.length):=⟨by simp⟩
  generalize s.drop 1=d at hd ho;clear hb hl
  (have F_:=c3 zC zTe zL3;show W CC 0 13 (zA 233) _ ⟨[(0,_),(1,_)],[]⟩ _)
  (refine gA ?_)
  all_goals refine aJ ?_<;>exact⟨_,⟨rfl,rfl⟩,ho.h⟩
 |false =>
  rw[show (([45]:List Nat)).length=1 from rfl,hb] at hp;clear hb
  (have F_:=c3 zC zTe zL3;show W CC 0 13 (zA 233) _ ⟨[(0,_),(1,_)],[]⟩ _)
  (refine gA ?_)
  all_goals refine aJ ?_<;>exact⟨_,⟨rfl,rfl⟩,Nat.le_refl _⟩
def zUc(s:List Nat):∃t:List Nat,Om CC 199 [.t (.str s),.t (.str [45])] []=some (.val (.t (.str t)),[])∧(t.length≤s.length):=by
 refine zJ zZb rfl ?_;obtain⟨t,ht,hl⟩:=zSs s;have hM:Hid _:=⟨hl⟩
 clear hl
 (have F_:=c3 zC yDx yDd;show W CC 0 8 (zA 199) _ ⟨[(0,_),(1,_)],[]⟩ _)
 (refine gA ?_)
 all_goals refine aJ ?_<;>exact⟨_,⟨rfl,rfl⟩,hM.h⟩
def zIu(s:List UInt8):(nb s).length=s.length:=by simp [nb]
def zH5(s:List Nat):(ub s).length=s.length:=by simp [ub]
def zZX(s:List Nat)(h:s.length<4294967281):∃(a b:List Nat) (c:Bool),CC.prim 198 [.t (.str s),.t (.str [46])]=some (.tup [.t (.str a),.t (.str b),.t (.bool c)])∧a.length≤s.length∧b.length≤s.length:=by
 refine⟨nb (Lib.cut (ub s) (ub [46])).1,nb (Lib.cut (ub s) (ub [46])).2.1,(Lib.cut (ub s) (ub [46])).2.2,?_,?_,?_⟩
 ·rw[yBy]
  show (bif Nat.blt s.length 4294967281 then _ else _)=_
  rw[show Nat.blt s.length 4294967281=true from by rw[Nat.blt_eq];exact h];rfl
 ·rw[zIu,← zH5 s];unfold Lib.cut;split
  ·simp only[List.length_take];omega
  exact Nat.le_refl _
 rw[zIu,← zH5 s];unfold Lib.cut;split
 ·simp only[List.length_drop];omega
 exact Nat.zero_le _
def zDz(s:List Nat)(h:s.length≤281474976710656):∃n:Int,(CC.prim 201 [.t (.str s),.t (.int .i64 10),.t (.int .i64 64)]=some (.tup [.t (.int .i64 n),.t .nilifc])∧R64 n) ∨
  CC.prim 201 [.t (.str s),.t (.int .i64 10),.t (.int .i64 64)]=some (.tup [.t (.int .i64 n),.ifx]):=by
 have e:CC.prim 201 [.t (.str s),.t (.int .i64 10),.t (.int .i64 64)]=(match Lib.parseIntB 64 (ub s) with
   |.ok v=>some (.tup [.t (.int .i64 v),.t .nilifc])
   |.range=>some (.tup [.t (.int .i64 (Lib.intSat 64 (ub s))),.ifx])
   |_=>some (.tup [.t (.int .i64 0),.ifx])):=by
  rw[yBa]
  show (bif Nat.ble s.length 281474976710656 then _ else _)=_
  rw[show Nat.ble s.length 281474976710656=true from (by rw[Nat.ble_eq];exact h)];rfl
 rw[e];cases hp:Lib.parseIntB 64 (ub s) with
 |ok v =>
  refine⟨v,.inl ⟨rfl,?_⟩⟩;unfold Lib.parseIntB at hp;split at hp
  ·cases hp
  dsimp only at hp;split at hp
  ·cases hp
  ·cases hp
  rename_i u _;split at hp
  ·cases hp
  split at hp
  ·cases hp
  rename_i h1 h2;simp only[Nat.reduceSub,Nat.reducePow] at h1 h2;cases hp;unfold R64;split<;>(rename_i h3;simp only[h3,not_true_eq_false,not_false_eq_true,true_and,false_and] at h1 h2;omega)
 |range=>exact⟨_,.inr rfl⟩
 |_=>exact⟨0,.inr rfl⟩
def yD{a b:List Nat}(h:a.length+b.length<4611686018427387904):binop Tryz.prog .add 9 (.t (.str a)) (.t (.str b))=some (.t (.str (a++b))):=by
 simp only[binop,zOm,h,if_true];rfl
def yAt:∃m,und Tryz.prog 157=some (.interface m):=by
 have h:(match und Tryz.prog 157 with|some (.interface _)=>true|_=>false)=true:=by kernel_rfl
 split at h
 ·exact⟨_,by assumption⟩
 cases h
def xa4:=c5 zF zG zP zE (c5 zC zB zCd zDp (c5 zDx zC7 zDw zBi zC8))
def zPW(s:List Nat)(h:s.length≤1000000):∃r:Val×Int,Om CC 159 [.t (.str s)] []=some (.val (.tup [.t (.agg [.int .u8 r.1.k,.int .i64 r.1.n,.str r.1.s]),.t (.int .i64 r.2)]),[])∧(VOK r.1∧r.1.s=[]):=by
 refine zJ zZ3 rfl ?_;obtain⟨_,hJ⟩:=yAt;obtain⟨t,ht,hl⟩:=zUc s;obtain⟨a,b,c,hc,ha,hb⟩:=zZX t (by omega);obtain⟨da,hO,hq⟩:=zJY a;obtain⟨db,hP,-⟩:=zJY b;have hL:=zHU s [45];rw[show (([45]:List Nat)).length=1 from rfl] at hL;generalize beqL (s.take 1) [45]=p at hL;have hm:∀g,slice Tryz.prog g 9 (.t (.str (b++[48,48,48,48]))) none (some 4) none=some (.t (.str ((b++[48,48,48,48]).take 4))):=fun g=>zBk (n:=4) (by simp)
 have sa2:binop Tryz.prog .add 9 (.t (.str b)) (.t (.str [48,48,48,48]))=some (.t (.str (b++[48,48,48,48]))):=yD (by simp;omega);have hF:((b++[48,48,48,48]).take 4).length≤4:=by rw[List.length_take];omega
 generalize (b++[48,48,48,48]).take 4=b4 at hm hF;have sa1:binop Tryz.prog .add 9 (.t (.str [45])) (.t (.str a))=some (.t (.str (45::a))):=yD (by simp;omega);have sa3:binop Tryz.prog .add 9 (.t (.str a)) (.t (.str b4))=some (.t (.str (a++b4))):=yD (by omega);have sa4:binop Tryz.prog .add 9 (.t (.str [45])) (.t (.str (a++b4)))=some (.t (.str (45::(a++b4)))):=yD (by simp;omega);have i1:Hid _:=⟨zDz a (by omega)⟩
 have i2:Hid _:=⟨zDz (45::a) (by simp;omega)⟩
 have i3:Hid _:=⟨zDz (a++b4) (by simp;omega)⟩
 have i4:Hid _:=⟨zDz (45::(a++b4)) (by simp;omega)⟩
 cases a with
 |nil =>
  cases da with
  |true=>exact absurd rfl (hq rfl)
  |false =>
   clear ha hb hq hl h i1 i2 i3 i4 hF
   (have F_:=xa4;show W CC 0 67 (zA 159) _ ⟨[(0,_)],[]⟩ _)
   (refine gA ?_)
   all_goals refine aJ ?_<;>exact⟨(⟨1,0,[]⟩,4),⟨rfl,rfl⟩,yZ 1 wC,rfl⟩
 |cons a0 ar =>
  have hN:index Tryz.prog 9 (.t (.str (a0::ar))) 0=some (.t (.int .u8 (a0:Int))):=qX (i:=0) rfl;generalize a0::ar=a at *;clear ha hb hq hl h hF;cases c<;>cases p
  ·obtain⟨n,⟨h1,r1⟩|h1⟩:=i1.h
   ·have r2:Hid (R64 n):=⟨r1⟩
    clear r1 i1 i2 i3 i4
    (have F_:=xa4;show W CC 0 67 (zA 159) _ ⟨[(0,_)],[]⟩ _)
    (repeat' first|refine gA ?_|refine gT ?_ ?_<;>intro hv|fail)
    all_goals refine aJ ?_<;>(first|exact⟨(⟨1,0,[]⟩,4),⟨rfl,rfl⟩,yZ 1 wC,rfl⟩|exact⟨(⟨1,n,[]⟩,0),⟨rfl,rfl⟩,yZ 1 r2.h,rfl⟩|exact⟨(⟨2,n,[]⟩,0),⟨rfl,rfl⟩,yZ 2 r2.h,rfl⟩)
   clear i1 i2 i3 i4
   (have F_:=xa4;show W CC 0 67 (zA 159) _ ⟨[(0,_)],[]⟩ _)
   (repeat' first|refine gA ?_|refine gT ?_ ?_<;>intro hv|fail)
   all_goals refine aJ ?_<;>(first|exact⟨(⟨1,0,[]⟩,4),⟨rfl,rfl⟩,yZ 1 wC,rfl⟩|exact⟨(⟨1,0,[]⟩,9),⟨rfl,rfl⟩,yZ 1 wC,rfl⟩|exact⟨(⟨2,0,[]⟩,9),⟨rfl,rfl⟩,yZ 2 wC,rfl⟩)
  ·obtain⟨n,⟨h1,r1⟩|h1⟩:=i2.h
   ·have r2:Hid (R64 n):=⟨r1⟩
    clear r1 i1 i2 i3 i4
    (have F_:=xa4;show W CC 0 67 (zA 159) _ ⟨[(0,_)],[]⟩ _)
    (repeat' first|refine gA ?_|refine gT ?_ ?_<;>intro hv|fail)
    all_goals refine aJ ?_<;>(first|exact⟨(⟨1,0,[]⟩,4),⟨rfl,rfl⟩,yZ 1 wC,rfl⟩|exact⟨(⟨1,n,[]⟩,0),⟨rfl,rfl⟩,yZ 1 r2.h,rfl⟩|exact⟨(⟨2,n,[]⟩,0),⟨rfl,rfl⟩,yZ 2 r2.h,rfl⟩)
   clear i1 i2 i3 i4
   (have F_:=xa4;show W CC 0 67 (zA 159) _ ⟨[(0,_)],[]⟩ _)
   (repeat' first|refine gA ?_|refine gT ?_ ?_<;>intro hv|fail)
   all_goals refine aJ ?_<;>(first|exact⟨(⟨1,0,[]⟩,4),⟨rfl,rfl⟩,yZ 1 wC,rfl⟩|exact⟨(⟨1,0,[]⟩,9),⟨rfl,rfl⟩,yZ 1 wC,rfl⟩|exact⟨(⟨2,0,[]⟩,9),⟨rfl,rfl⟩,yZ 2 wC,rfl⟩)
  ·obtain⟨n,⟨h1,r1⟩|h1⟩:=i3.h
   ·have r2:Hid (R64 n):=⟨r1⟩
    clear r1 i1 i2 i3 i4
    (have F_:=xa4;show W CC 0 67 (zA 159) _ ⟨[(0,_)],[]⟩ _)
    (repeat' first|refine gA ?_|refine gT ?_ ?_<;>intro hv|fail)
    all_goals refine aJ ?_<;>(first|exact⟨(⟨1,0,[]⟩,4),⟨rfl,rfl⟩,yZ 1 wC,rfl⟩|exact⟨(⟨1,n,[]⟩,0),⟨rfl,rfl⟩,yZ 1 r2.h,rfl⟩|exact⟨(⟨2,n,[]⟩,0),⟨rfl,rfl⟩,yZ 2 r2.h,rfl⟩)
   clear i1 i2 i3 i4
   (have F_:=xa4;show W CC 0 67 (zA 159) _ ⟨[(0,_)],[]⟩ _)
   (repeat' first|refine gA ?_|refine gT ?_ ?_<;>intro hv|fail)
   all_goals refine aJ ?_<;>(first|exact⟨(⟨1,0,[]⟩,4),⟨rfl,rfl⟩,yZ 1 wC,rfl⟩|exact⟨(⟨1,0,[]⟩,9),⟨rfl,rfl⟩,yZ 1 wC,rfl⟩|exact⟨(⟨2,0,[]⟩,9),⟨rfl,rfl⟩,yZ 2 wC,rfl⟩)
  obtain⟨n,⟨h1,r1⟩|h1⟩:=i4.h
  ·have r2:Hid (R64 n):=⟨r1⟩
   clear r1 i1 i2 i3 i4
   (have F_:=xa4;show W CC 0 67 (zA 159) _ ⟨[(0,_)],[]⟩ _)
   (repeat' first|refine gA ?_|refine gT ?_ ?_<;>intro hv|fail)
   all_goals refine aJ ?_<;>(first|exact⟨(⟨1,0,[]⟩,4),⟨rfl,rfl⟩,yZ 1 wC,rfl⟩|exact⟨(⟨1,n,[]⟩,0),⟨rfl,rfl⟩,yZ 1 r2.h,rfl⟩|exact⟨(⟨2,n,[]⟩,0),⟨rfl,rfl⟩,yZ 2 r2.h,rfl⟩)
  clear i1 i2 i3 i4
  (have F_:=xa4;show W CC 0 67 (zA 159) _ ⟨[(0,_)],[]⟩ _)
  (repeat' first|refine gA ?_|refine gT ?_ ?_<;>intro hv|fail)
  all_goals refine aJ ?_<;>(first|exact⟨(⟨1,0,[]⟩,4),⟨rfl,rfl⟩,yZ 1 wC,rfl⟩|exact⟨(⟨1,0,[]⟩,9),⟨rfl,rfl⟩,yZ 1 wC,rfl⟩|exact⟨(⟨2,0,[]⟩,9),⟨rfl,rfl⟩,yZ 2 wC,rfl⟩)
def zEH:∀(k u:Nat),u<10 ^ (k+1)→(Lib.decDigits u).length≤k+1∧1≤(Lib.decDigits u).length
 |0,u,h=>by rw[Lib.decDigits,dif_pos (by simpa using h)];simp
 |k+1,u,h=>by
  rw[Lib.decDigits];split
  ·simp
  have:=zEH k (u / 10) (by rw[Nat.pow_succ] at h;omega);simp only[List.length_append,List.length_singleton];omega
def zHN(n:Int)(h:R64 n):∃s:List Nat,CC.prim 202 [.t (.int .i64 n),.t (.int .i64 10)]=some (.t (.str s))∧1≤s.length∧s.length≤20:=by
 refine⟨nb (Lib.itoa n),?_,?_⟩
 ·rw[zZt]
  show (bif decide (-9223372036854775808≤n)&&decide (n≤9223372036854775807) then _ else _)=_
  have h1:decide (-9223372036854775808≤n)=true:=by simpa using h.1
  have h2:decide (n≤9223372036854775807)=true:=by have:=h.2;simp;omega
  rw[h1,h2];rfl
 rw[zIu];unfold Lib.itoa;have:=h.1;have:=h.2;split
 ·have:=zEH 18 n.natAbs (by simp;omega);simp only[List.length_cons];omega
 have:=zEH 18 n.toNat (by simp;omega);omega
def zIW(old new:List UInt8):∀(k:Nat) (s:List UInt8),(Lib.replaceK old new k s).length≤s.length+k * new.length
 |0,s=>by simp [Lib.replaceK]
 |k+1,s=>by
  unfold Lib.replaceK;split
  ·omega
  have:=zIW old new k (s.drop ((Lib.index s old).toNat+old.length));simp only[List.length_append,List.length_take,List.length_drop] at *;have e:(k+1) * new.length=k * new.length+new.length:=Nat.succ_mul _ _;omega
def zHQ(sub:List UInt8):∀(k:Nat) (s:List UInt8),Lib.countFrom sub k s≤k
 |0,s=>by simp [Lib.countFrom]
 |k+1,s=>by
  unfold Lib.countFrom;split
  ·omega
  have:=zHQ sub k (s.drop ((Lib.index s sub).toNat+sub.length));omega
def zM5(s old new:List UInt8):(Lib.replaceAll s old new).length≤s.length+(s.length+1) * new.length:=by
 unfold Lib.replaceAll Lib.replace;split
 ·omega
 have h1:=zIW old new (Lib.replaceNum s old (-1)) s;have h2:Lib.replaceNum s old (-1)≤s.length+1:=by
  unfold Lib.replaceNum;rw[if_pos (.inl (by decide))];exact zHQ old (s.length+1) s
 have h3:=Nat.mul_le_mul_right new.length h2;omega
def zGy (s a b:List Nat) (ha:1≤a.length) (hs:s.length≤100000000) (hb:b.length≤2) :
  ∃r:List Nat,CC.prim 240 [.t (.str s),.t (.str a),.t (.str b)]=some (.t (.str r))∧r.length≤s.length+(s.length+1) * 2:=by
 refine⟨nb (Lib.replaceAll (ub s) (ub a) (ub b)),?_,?_⟩
 ·rw[yAb]
  show (bif Nat.blt s.length 4294967281&&Nat.ble 1 a.length&&Nat.ble (s.length+(s.length+1) * b.length) 140737488355328 then _ else _)=_
  have h3:(s.length+1) * b.length≤(s.length+1) * 2:=Nat.mul_le_mul_left _ hb;rw[show Nat.blt s.length 4294967281=true from by rw[Nat.blt_eq];omega,show Nat.ble 1 a.length=true from (by rw[Nat.ble_eq];exact ha),
   show Nat.ble (s.length+(s.length+1) * b.length) 140737488355328=true from (by rw[Nat.ble_eq];omega)]
  rfl
 have:=zM5 (ub s) (ub a) (ub b);rw[zIu];rw[zH5,zH5] at this;have h3:(s.length+1) * b.length≤(s.length+1) * 2:=Nat.mul_le_mul_left _ hb;omega
def zNn(s:List Nat)(h:s.length≤9223372036854775807):∃r:List Nat,CC.prim 239 [.t (.str s),.t (.str [48])]=some (.t (.str r))∧r.length≤s.length:=by
 refine⟨nb (Lib.trimRightB (ub s) (UInt8.ofNat 48)),?_,by
  rw[zIu,← zH5 s];unfold Lib.trimRightB;rw[List.length_reverse];have:=(List.dropWhile_sublist (fun x=>x==UInt8.ofNat 48) (l:=(ub s).reverse)).length_le;rw[List.length_reverse] at this;exact this⟩
 rw[yBs]
 show (bif Nat.blt 48 128&&Nat.ble s.length 9223372036854775807 then _ else _)=_
 rw[show Nat.ble s.length 9223372036854775807=true from (by rw[Nat.ble_eq];exact h)];rfl
def zSl(s:List Nat)(h:s.length≤10000000):∃r:List Nat,Om CC 204 [.t (.str s)] []=some (.val (.t (.str r)),[])∧(True):=by
 refine zJ yAA rfl ?_;obtain⟨r1,h1,l1⟩:=zGy s [92] [92,92] (by simp) (by omega) (by simp);obtain⟨r2,h2,l2⟩:=zGy r1 [34] [92,34] (by simp) (by omega) (by simp);have sa1:binop Tryz.prog .add 9 (.t (.str [34])) (.t (.str r2))=some (.t (.str (34::r2))):=yD (by simp;omega);have sa2:binop Tryz.prog .add 9 (.t (.str (34::r2))) (.t (.str [34]))=some (.t (.str ((34::r2)++[34]))):=yD (by simp;omega);clear l1 l2 h
 (have F_:=c3 zC yEM yGI;show W CC 0 8 (zA 204) _ ⟨[(0,_)],[]⟩ _)
 (refine gA ?_)
 all_goals refine aJ ?_<;>exact⟨_,⟨rfl,rfl⟩,by trivial⟩
def yAy(b:Bool):∃r:List Nat,Om CC 241 [.t (.bool b)] []=some (.val (.t (.str r)),[])∧(True):=by
 refine zJ zYC rfl ?_
 (have F_:=c2 zP yCl;show W CC 0 4 (zA 241) _ ⟨[(0,_)],[]⟩ _)
 (repeat' first|refine gA ?_|refine gT ?_ ?_<;>intro hv|fail)
 all_goals refine aJ ?_<;>exact⟨_,⟨rfl,rfl⟩,by trivial⟩
def yDi(b:Bool):∃r:List Nat,Om CC 205 [.t (.bool b)] []=some (.val (.t (.str r)),[])∧(True):=by
 refine zJ yAQ rfl ?_;obtain⟨r,hr,-⟩:=yAy b
 (have F_:=c3 zP yEp yFl;show W CC 0 5 (zA 205) _ ⟨[(0,_)],[]⟩ _)
 (refine gA ?_)
 all_goals refine aJ ?_<;>exact⟨_,⟨rfl,rfl⟩,by trivial⟩
def zQg(n:Int)(h:R64 n):∃r:List Nat,Om CC 203 [.t (.int .i64 n)] []=some (.val (.t (.str r)),[])∧(True):=by
 refine zJ yBp rfl ?_;obtain⟨s,hs,l1,l2⟩:=zHN n h;have hm:∀g,slice Tryz.prog g 9 (.t (.str s)) (some 1) none none=some (.t (.str (s.drop 1))):=fun g=>zCx (n:=1) l1
 have l3:(s.drop 1).length≤20:=by simp;omega
 generalize s.drop 1=s1 at hm l3;have l12:Hid _:=⟨l2⟩
 have l13:Hid _:=⟨l3⟩
 clear h l1 l2 l3
 (have F_:=c5 zF zG zC yCu (c2 zTy yDA);show W CC 0 35 (zA 203) _ ⟨[(0,_)],[]⟩ _)
 (repeat' first|refine gA ?_|refine gT ?_ ?_<;>intro hv|fail)
 ·refine yE (α:=List Nat) (fun cur=>⟨[(3,.t (.str cur)),(4,.t (.str [45]))],[]⟩) (fun cur=>5 - cur.length) (fun cur=>cur.length≤20) s1 (by kernel_rfl) l13.h ?_;intro cur hG
  by_cases hl:cur.length<5
  ·have hd:decide ((cur.length:Int)<5)=true:=by simp;omega
   have sa1:binop Tryz.prog .add 9 (.t (.str [48])) (.t (.str cur))=some (.t (.str (48::cur))):=yD (by simp;omega)
   (refine gA ?_)
   exact zD (48::cur) (by show 5 - (48::cur).length<5 - cur.length;simp only[List.length_cons];omega) (by show (48::cur).length≤20;simp only[List.length_cons];omega) (by kernel_rfl)
  have hd:decide ((cur.length:Int)<5)=false:=by simp;omega
  have hw:IntKind.i64.wrap ((cur.length:Int) - 4)=((cur.length - 4:Nat):Int):=by rw[wrap64]<;>omega
  have hA:∀g,slice Tryz.prog g 9 (.t (.str cur)) (some ((cur.length - 4:Nat):Int)) none none=some (.t (.str (cur.drop (cur.length - 4)))):=fun g=>zCx (by omega)
  have hC:∀g,slice Tryz.prog g 9 (.t (.str cur)) none (some ((cur.length - 4:Nat):Int)) none=some (.t (.str (cur.take (cur.length - 4)))):=fun g=>zBk (by omega)
  have ho:(cur.drop (cur.length - 4)).length≤20:=by simp;omega
  generalize cur.drop (cur.length - 4)=d at hA ho;have hD:(cur.take (cur.length - 4)).length≤20:=by simp;omega
  generalize cur.take (cur.length - 4)=e at hC hD;obtain⟨r,hr,hH⟩:=zNn d (by omega);have sa1:binop Tryz.prog .add 9 (.t (.str [45])) (.t (.str e))=some (.t (.str ([45]++e))):=yD (by simp;omega);have sa2:binop Tryz.prog .add 9 (.t (.str ([45]++e))) (.t (.str [46]))=some (.t (.str (([45]++e)++[46]))):=yD (by simp;omega);have sa3:binop Tryz.prog .add 9 (.t (.str (([45]++e)++[46]))) (.t (.str r))=some (.t (.str ((([45]++e)++[46])++r))):=yD (by simp;omega);have sa4:binop Tryz.prog .add 9 (.t (.str (([45]++e)++[46]))) (.t (.str [48]))=some (.t (.str ((([45]++e)++[46])++[48]))):=yD (by simp;omega);generalize (([45]++e)++[46])++r=o1 at sa3;generalize (([45]++e)++[46])++[48]=o2 at sa4;generalize ([45]++e)++[46]=o3 at sa2 sa3 sa4;generalize [45]++e=o4 at sa1 sa2;clear ho hH hD;generalize cur.length - 4=m at hw hA hC
  (repeat' first|refine gA ?_|refine gT ?_ ?_<;>intro hv|fail)
  all_goals refine aJ ?_<;>exact⟨_,⟨rfl,rfl⟩,by trivial⟩
 refine yE (α:=List Nat) (fun cur=>⟨[(3,.t (.str cur)),(4,.t (.str []))],[]⟩) (fun cur=>5 - cur.length) (fun cur=>cur.length≤20) s (by kernel_rfl) l12.h ?_;intro cur hG
 by_cases hl:cur.length<5
 ·have hd:decide ((cur.length:Int)<5)=true:=by simp;omega
  have sa1:binop Tryz.prog .add 9 (.t (.str [48])) (.t (.str cur))=some (.t (.str (48::cur))):=yD (by simp;omega)
  (refine gA ?_)
  exact zD (48::cur) (by show 5 - (48::cur).length<5 - cur.length;simp only[List.length_cons];omega) (by show (48::cur).length≤20;simp only[List.length_cons];omega) (by kernel_rfl)
 have hd:decide ((cur.length:Int)<5)=false:=by simp;omega
 have hw:IntKind.i64.wrap ((cur.length:Int) - 4)=((cur.length - 4:Nat):Int):=by rw[wrap64]<;>omega
 have hA:∀g,slice Tryz.prog g 9 (.t (.str cur)) (some ((cur.length - 4:Nat):Int)) none none=some (.t (.str (cur.drop (cur.length - 4)))):=fun g=>zCx (by omega)
 have hC:∀g,slice Tryz.prog g 9 (.t (.str cur)) none (some ((cur.length - 4:Nat):Int)) none=some (.t (.str (cur.take (cur.length - 4)))):=fun g=>zBk (by omega)
 have ho:(cur.drop (cur.length - 4)).length≤20:=by simp;omega
 generalize cur.drop (cur.length - 4)=d at hA ho;have hD:(cur.take (cur.length - 4)).length≤20:=by simp;omega
 generalize cur.take (cur.length - 4)=e at hC hD;obtain⟨r,hr,hH⟩:=zNn d (by omega);have sa1:binop Tryz.prog .add 9 (.t (.str ([]:List Nat))) (.t (.str e))=some (.t (.str (([]:List Nat)++e))):=yD (by simp;omega);have sa2:binop Tryz.prog .add 9 (.t (.str (([]:List Nat)++e))) (.t (.str [46]))=some (.t (.str ((([]:List Nat)++e)++[46]))):=yD (by simp;omega);have sa3:binop Tryz.prog .add 9 (.t (.str ((([]:List Nat)++e)++[46]))) (.t (.str r))=some (.t (.str (((([]:List Nat)++e)++[46])++r))):=yD (by simp;omega);have sa4:binop Tryz.prog .add 9 (.t (.str ((([]:List Nat)++e)++[46]))) (.t (.str [48]))=some (.t (.str (((([]:List Nat)++e)++[46])++[48]))):=yD (by simp;omega);generalize ((([]:List Nat)++e)++[46])++r=o1 at sa3;generalize ((([]:List Nat)++e)++[46])++[48]=o2 at sa4;generalize (([]:List Nat)++e)++[46]=o3 at sa2 sa3 sa4;generalize ([]:List Nat)++e=o4 at sa1 sa2;clear ho hH hD;generalize cur.length - 4=m at hw hA hC
 (repeat' first|refine gA ?_|refine gT ?_ ?_<;>intro hv|fail)
 all_goals refine aJ ?_<;>exact⟨_,⟨rfl,rfl⟩,by trivial⟩
def zAX(v:Val)(hn:R64 v.n)(hs:v.s.length≤10000000):∃r:List Nat,Om CC 160 [.t (.agg [.int .u8 v.k,.int .i64 v.n,.str v.s])] []=some (.val (.t (.str r)),[])∧(True):=by
 refine zJ zRc rfl ?_;obtain⟨r1,h1,-⟩:=zHN v.n hn;obtain⟨r2,h2,-⟩:=zQg v.n hn;obtain⟨r3,h3,-⟩:=zSl v.s hs;obtain⟨r4,h4,-⟩:=yDi (v.n==1);have sa:binop Tryz.prog .add 9 (.t (.str [35])) (.t (.str v.s))=some (.t (.str (35::v.s))):=yD (by simp;omega);clear hn hs
 (have F_:=c5 zF zG zP zE (c5 zC zB zVu zO3 (c5 zTy yCy yCd yGT @zRl));show W CC 0 34 (zA 160) _ ⟨[(0,_)],[]⟩ _)
 (repeat' first|refine gA ?_|refine gT ?_ ?_<;>intro hv|fail)
 all_goals refine aJ ?_<;>exact⟨_,⟨rfl,rfl⟩,by trivial⟩
def zPR:Om CC 158 [] []=some (.val (.mp 0),[.map [(.int .u8 34,.t (.agg [.fn 196])),(.int .u8 35,.t (.agg [.fn 195])),(.int .u8 116,.t (.agg [.fn 197])),(.int .u8 102,.t (.agg [.fn 197])),(.int .u8 110,.t (.agg [.fn 197]))]]) :=
 vK (n:=200) (by kernel_rfl)
def zMW:∀s:List Nat,(unq s).length≤s.length
 |[]=>by simp [unq]
 |[_]=>by simp [unq]
 |c::d::r=>by
  unfold unq;split
  ·have:=zMW r;simp only[List.length_cons];omega
  have:=zMW (d::r);simp only[List.length_cons] at *;omega
def zRP(s:List Nat)(h:s.length≤4294967296):CC.prim 196 [.t (.str s)]=some (.tup [.t (.agg [.int .u8 3,.int .i64 0,.str (unq (s.drop 1))]),.t (.int .i64 0)]):=by
 rw[yAx]
 show (bif Nat.ble s.length 4294967296 then _ else _)=_
 rw[show Nat.ble s.length 4294967296=true from (by rw[Nat.ble_eq];exact h)];rfl
def txq{tx s:List Nat}{a b:Bool}{A:List AV}(hv:a=b)(h:Om CC 160 A []=some (.val (.t (.str tx)),[]))(q:a=b→tx=s:=by(intro h;simpa [wV] using h)){x:Int}:x=0→Om CC 160 A []=some (.val (.t (.str s)),[]):=fun _=>by rw[← q hv];exact h
def xa5:=c5 zF zG zP zE (c5 zC zB zR zEo (c5 zEu zEA zEj zEt (c5 zEy zEs zEk zEl kH)))
def zDj(s:List Nat)(hs:s.length<9223372036854775808):∃r:Val×Int,Om CC 105 [.t (.str s)] []=some (.val (.tup [.t (.agg [.int .u8 r.1.k,.int .i64 r.1.n,.str r.1.s]),.t (.int .i64 r.2)]),[])∧(VOK r.1∧r.1.s.length≤402∧(r.2=0→Om CC 160 [.t (.agg [.int .u8 r.1.k,.int .i64 r.1.n,.str r.1.s])] []=some (.val (.t (.str s)),[]))):=by
 refine zJ zZi rfl ?_
 by_cases h:402<s.length
 ·have hd:decide ((s.length:Int) > 402)=true:=by simp;omega
  clear hs h
  (have F_:=xa5;show W CC 0 46 (zA 105) _ ⟨[(0,_)],[]⟩ _)
  (refine gA ?_)
  all_goals refine aJ ?_<;>exact⟨(Zero,3),⟨rfl,rfl⟩,yX,by simp [Zero],fun h=>by simp at h⟩
 have hd:decide ((s.length:Int) > 402)=false:=by simp;omega
 cases s with
 |nil =>
  clear hs h
  (have F_:=xa5;show W CC 0 46 (zA 105) _ ⟨[(0,_)],[]⟩ _)
  (repeat' first|refine gA ?_|refine gT ?_ ?_<;>intro hv<;>try cases hv;done|fail)
  all_goals refine aJ ?_<;>exact⟨(Zero,4),⟨rfl,rfl⟩,yX,by simp [Zero],fun h=>by simp at h⟩
 |cons c r =>
  have hQ:=zPR;have hN:index Tryz.prog 9 (.t (.str (c::r))) 0=some (.t (.int .u8 (c:Int))):=qX (i:=0) rfl;have hR:beqL (c::r) []=false:=rfl;have hm:(c::r).length≤402:=by omega
  have hj:1≤(c::r).length:=by simp
  generalize c::r=s at *;clear h hs;have z1:decide (1+(0 - 0)<1)=false:=by decide
  have hz:zBI Tryz.prog 208=some (.t (.agg [.nilfn])):=by kernel_rfl
  by_cases c34:c=34
  ·have k1:((c:Int)==34)=true:=by simp [c34]
   have hI:=zRP s (by omega);have hu:(unq (s.drop 1)).length≤402:=by have:=zMW (s.drop 1);rw[List.length_drop] at this;omega
   generalize unq (s.drop 1)=u at hI hu;obtain⟨tx,hf,-⟩:=zAX ⟨3,0,u⟩ wC (by show u.length≤10000000;omega);dsimp only at hf;have hE:Hid (VOK ⟨3,0,u⟩∧u.length≤402):=⟨⟨wC,by show u.length<4294967281;omega⟩,hu⟩
   clear hu hm hj c34
   (have F_:=xa5;show W CC 0 46 (zA 105) _ ⟨[(0,_)],[]⟩ _)
   (repeat' first|refine gA ?_|refine gT ?_ ?_<;>intro hv|fail)
   all_goals refine aJ ?_<;>(first|exact⟨(Zero,4),⟨rfl,rfl⟩,yX,by simp [Zero],fun h=>by simp at h⟩|exact⟨(⟨3,0,u⟩,0),⟨rfl,rfl⟩,hE.h.1,hE.h.2,txq hv hf⟩)
  have k1:((c:Int)==34)=false:=by simp;omega
  by_cases c35:c=35
  ·have k2:((c:Int)==35)=true:=by simp [c35]
   have hI:=zWw s hj;have hu:(s.drop 1).length≤402:=by rw[List.length_drop];omega
   generalize s.drop 1=u at hI hu;obtain⟨tx,hf,-⟩:=zAX ⟨5,0,u⟩ wC (by show u.length≤10000000;omega);dsimp only at hf;have hE:Hid (VOK ⟨5,0,u⟩∧u.length≤402):=⟨⟨wC,by show u.length<4294967281;omega⟩,hu⟩
   clear hu hm hj c34 c35
   (have F_:=xa5;show W CC 0 46 (zA 105) _ ⟨[(0,_)],[]⟩ _)
   (repeat' first|refine gA ?_|refine gT ?_ ?_<;>intro hv|fail)
   all_goals refine aJ ?_<;>(first|exact⟨(Zero,4),⟨rfl,rfl⟩,yX,by simp [Zero],fun h=>by simp at h⟩|exact⟨(⟨5,0,u⟩,0),⟨rfl,rfl⟩,hE.h.1,hE.h.2,txq hv hf⟩)
  have k2:((c:Int)==35)=false:=by simp;omega
  have hh:(∃r:Val×Int,Om CC 197 [.t (.str s)] []=some (.val (.tup [.t (.agg [.int .u8 r.1.k,.int .i64 r.1.n,.str r.1.s]),.t (.int .i64 r.2)]),[])∧VOK r.1∧r.1.s=[]):=zVv s;have hk:(∃r:Val×Int,Om CC 159 [.t (.str s)] []=some (.val (.tup [.t (.agg [.int .u8 r.1.k,.int .i64 r.1.n,.str r.1.s]),.t (.int .i64 r.2)]),[])∧VOK r.1∧r.1.s=[]):=zPW s (by omega);clear hm hj c34 c35;have fin:∀k:Int,∀n:Int,VOK ⟨k,n,[]⟩→VOK ⟨k,n,[]⟩∧([]:List Nat).length≤402:=fun k n h=>⟨h,by simp⟩
  by_cases c116:c=116
  ·have k3:((c:Int)==116)=true:=by simp [c116]
   clear c116;obtain⟨⟨⟨vk,vn,vs⟩,ve⟩,hr,hv,he⟩:=hh;dsimp only at hr hv he;subst he;obtain⟨tx,hf,-⟩:=zAX ⟨vk,vn,[]⟩ hv.1 (by simp);dsimp only at hf;have hy:Hid (VOK ⟨vk,vn,[]⟩):=⟨hv⟩
   clear hk hv fin
   (have F_:=xa5;show W CC 0 46 (zA 105) _ ⟨[(0,_)],[]⟩ _)
   (repeat' first|refine gA ?_|refine gT ?_ ?_<;>intro hv|fail)
   all_goals refine aJ ?_<;>(first|exact⟨(Zero,4),⟨rfl,rfl⟩,yX,by simp [Zero],fun h=>by simp at h⟩|exact⟨(⟨vk,vn,[]⟩,0),⟨rfl,rfl⟩,hy.h,by simp,txq hv hf⟩|exact⟨(Zero,ve),⟨rfl,rfl⟩,yX,by simp [Zero],fun h=>by simp_all⟩)
  have k3:((c:Int)==116)=false:=by simp;omega
  by_cases c102:c=102
  ·have k4:((c:Int)==102)=true:=by simp [c102]
   clear c116 c102;obtain⟨⟨⟨vk,vn,vs⟩,ve⟩,hr,hv,he⟩:=hh;dsimp only at hr hv he;subst he;obtain⟨tx,hf,-⟩:=zAX ⟨vk,vn,[]⟩ hv.1 (by simp);dsimp only at hf;have hy:Hid (VOK ⟨vk,vn,[]⟩):=⟨hv⟩
   clear hk hv fin
   (have F_:=xa5;show W CC 0 46 (zA 105) _ ⟨[(0,_)],[]⟩ _)
   (repeat' first|refine gA ?_|refine gT ?_ ?_<;>intro hv|fail)
   all_goals refine aJ ?_<;>(first|exact⟨(Zero,4),⟨rfl,rfl⟩,yX,by simp [Zero],fun h=>by simp at h⟩|exact⟨(⟨vk,vn,[]⟩,0),⟨rfl,rfl⟩,hy.h,by simp,txq hv hf⟩|exact⟨(Zero,ve),⟨rfl,rfl⟩,yX,by simp [Zero],fun h=>by simp_all⟩)
  have k4:((c:Int)==102)=false:=by simp;omega
  by_cases c110:c=110
  ·have k5:((c:Int)==110)=true:=by simp [c110]
   clear c116 c102 c110;obtain⟨⟨⟨vk,vn,vs⟩,ve⟩,hr,hv,he⟩:=hh;dsimp only at hr hv he;subst he;obtain⟨tx,hf,-⟩:=zAX ⟨vk,vn,[]⟩ hv.1 (by simp);dsimp only at hf;have hy:Hid (VOK ⟨vk,vn,[]⟩):=⟨hv⟩
   clear hk hv fin
   (have F_:=xa5;show W CC 0 46 (zA 105) _ ⟨[(0,_)],[]⟩ _)
   (repeat' first|refine gA ?_|refine gT ?_ ?_<;>intro hv|fail)
   all_goals refine aJ ?_<;>(first|exact⟨(Zero,4),⟨rfl,rfl⟩,yX,by simp [Zero],fun h=>by simp at h⟩|exact⟨(⟨vk,vn,[]⟩,0),⟨rfl,rfl⟩,hy.h,by simp,txq hv hf⟩|exact⟨(Zero,ve),⟨rfl,rfl⟩,yX,by simp [Zero],fun h=>by simp_all⟩)
  have k5:((c:Int)==110)=false:=by simp;omega
  clear c116 c102 c110;obtain⟨⟨⟨vk,vn,vs⟩,ve⟩,hr,hv,he⟩:=hk;dsimp only at hr hv he;subst he;obtain⟨tx,hf,-⟩:=zAX ⟨vk,vn,[]⟩ hv.1 (by simp);dsimp only at hf;have hy:Hid (VOK ⟨vk,vn,[]⟩):=⟨hv⟩
  clear hh hv fin
  (have F_:=xa5;show W CC 0 46 (zA 105) _ ⟨[(0,_)],[]⟩ _)
  (repeat' first|refine gA ?_|refine gT ?_ ?_<;>intro hv|fail)
  all_goals refine aJ ?_<;>(first|exact⟨(Zero,4),⟨rfl,rfl⟩,yX,by simp [Zero],fun h=>by simp at h⟩|exact⟨(⟨vk,vn,[]⟩,0),⟨rfl,rfl⟩,hy.h,by simp,txq hv hf⟩|exact⟨(Zero,ve),⟨rfl,rfl⟩,yX,by simp [Zero],fun h=>by simp_all⟩)
end Go.Ab
