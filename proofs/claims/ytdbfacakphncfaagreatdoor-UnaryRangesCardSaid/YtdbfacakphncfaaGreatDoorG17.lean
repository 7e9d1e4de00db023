/- Lemmas. -/
import Derived.Test.YtdbfacakphncfaaGreatDoorG03
import Derived.Lib.RuneCount
set_option maxRecDepth 1000000
set_option maxHeartbeats 40000000
set_option linter.all false
namespace Go.Ab
open Go.Proofs
def yEC(d:Nat)(v w:Val):equal Tryz.prog (d+1+1) 23 (.agg v.c) (.agg w.c)=some (decide (v=w)):=by
 simp only[Val.c,yFF,zLc,zFG,zWR,zWO,zW4,nth,zUB _ _ _ _ _ _ zWI,zUB _ _ _ _ _ _ zXd,yGf _ _ _ _ _ zFs,yIz,Bool.and_true]
 congr 1
 obtain⟨k,n,s⟩:=v;obtain⟨k',n',s'⟩:=w;simp only[vV,Val.mk.injEq]
 by_cases h1:k=k'<;>by_cases h2:n=n'<;>by_cases h3:s=s'<;>simp [h1,h2,h3]
attribute [local irreducible] W RW RR
def zGH(n:Int):∃u:Int,Om CC 218 [.t (.int .i64 n)] []=some (.val (.t (.int .u64 u)),[])∧U64 u∧(R64 n→n≠0→u≠0):=by
 refine zH zXR rfl ?_
 (have F_:=c3 zF zAh yGq;show W CC 0 10 (zA 218) _ ⟨[(0,_)],[]⟩ _)
 (repeat' first|refine gA ?_|refine gT ?_ ?_<;>intro hv<;>try cases hv;done|fail)
 ·(refine aM ?_)
  refine⟨_,⟨rfl,rfl⟩,zAW _,fun h h0=>?_⟩;simp only[zDw,R64] at *;omega
 (refine aM ?_)
 refine⟨_,⟨rfl,rfl⟩,zAW _,fun h h0=>?_⟩;simp only[zDw,R64] at *;omega
noncomputable def Size(n:Int):Int:=(zGH n).choose
def zGM(n:Int):Om CC 218 [.t (.int .i64 n)] []=some (.val (.t (.int .u64 (Size n))),[]):=(zGH n).choose_spec.1
def yDM(n:Int):U64 (Size n):=(zGH n).choose_spec.2.1
def zPV{n:Int}(h:R64 n)(h0:n≠0):Size n≠0:=(zGH n).choose_spec.2.2 h h0
def zGJ(neg:Bool)(hi:Int)(lo:Int):∃x:Int×Int,Om CC 219 [.t (.bool neg),.t (.int .u64 hi),.t (.int .u64 lo)] []=some (.val (.tup [.t (.int .i64 x.1),.t (.int .i64 x.2)]),[])∧R64 x.1:=by
 refine zH zYV rfl ?_
 (have F_:=c3 zF zN (c2 zAh yFp);show W CC 0 30 (zA 219) _ ⟨[(0,_),(1,_),(2,_)],[]⟩ _)
 (repeat' first|refine gA ?_|refine gT ?_ ?_<;>intro hv<;>try cases hv;done|fail)
 all_goals refine aM ?_<;>exact⟨(_,_),⟨rfl,rfl⟩,by first|exact zCp _|(simp only[R64];decide)⟩
noncomputable def zNZ(neg:Bool)(hi:Int)(lo:Int):Int×Int:=(zGJ neg hi lo).choose
def zFm(neg:Bool)(hi:Int)(lo:Int):Om CC 219 [.t (.bool neg),.t (.int .u64 hi),.t (.int .u64 lo)] []=some (.val (.tup [.t (.int .i64 (zNZ neg hi lo).1),.t (.int .i64 (zNZ neg hi lo).2)]),[]):=(zGJ neg hi lo).choose_spec.1
def zDC(neg:Bool)(hi:Int)(lo:Int):R64 (zNZ neg hi lo).1:=(zGJ neg hi lo).choose_spec.2
def zJW(a:Int)(b:Int):∃x:Int×Int,Om CC 175 [.t (.int .i64 a),.t (.int .i64 b)] []=some (.val (.tup [.t (.int .i64 x.1),.t (.int .i64 x.2)]),[])∧R64 x.1:=by
 refine zH yAk rfl ?_
 (have F_:=c3 zF zN yAQ;show W CC 0 23 (zA 175) _ ⟨[(0,_),(1,_)],[]⟩ _)
 (repeat' first|refine gA ?_|refine gT ?_ ?_<;>intro hv<;>try cases hv;done|fail)
 all_goals refine aM ?_<;>exact⟨(_,_),⟨rfl,rfl⟩,by first|exact zCp _|(simp only[R64];decide)⟩
noncomputable def NAdd(a:Int)(b:Int):Int×Int:=(zJW a b).choose
def zQq(a:Int)(b:Int):Om CC 175 [.t (.int .i64 a),.t (.int .i64 b)] []=some (.val (.tup [.t (.int .i64 (NAdd a b).1),.t (.int .i64 (NAdd a b).2)]),[]):=(zJW a b).choose_spec.1
def zTF(a:Int)(b:Int):R64 (NAdd a b).1:=(zJW a b).choose_spec.2
def zJz(a:Int)(b:Int):∃x:Int×Int,Om CC 176 [.t (.int .i64 a),.t (.int .i64 b)] []=some (.val (.tup [.t (.int .i64 x.1),.t (.int .i64 x.2)]),[])∧R64 x.1:=by
 refine zH zZs rfl ?_
 (have F_:=c3 zF zN yEO;show W CC 0 23 (zA 176) _ ⟨[(0,_),(1,_)],[]⟩ _)
 (repeat' first|refine gA ?_|refine gT ?_ ?_<;>intro hv<;>try cases hv;done|fail)
 all_goals refine aM ?_<;>exact⟨(_,_),⟨rfl,rfl⟩,by first|exact zCp _|(simp only[R64];decide)⟩
noncomputable def NSub(a:Int)(b:Int):Int×Int:=(zJz a b).choose
def zPT(a:Int)(b:Int):Om CC 176 [.t (.int .i64 a),.t (.int .i64 b)] []=some (.val (.tup [.t (.int .i64 (NSub a b).1),.t (.int .i64 (NSub a b).2)]),[]):=(zJz a b).choose_spec.1
def zTl(a:Int)(b:Int):R64 (NSub a b).1:=(zJz a b).choose_spec.2
def zH4(a b:Int):∃x:Int×Int,Om CC 217 [.t (.int .u64 a),.t (.int .u64 b)] []=some (.val (.tup [.t (.int .u64 x.1),.t (.int .u64 x.2)]),[])∧U64 x.1∧U64 x.2:=by
 refine zH zXZ rfl ?_
 (have F_:=c2 zAh yC5;show W CC 0 51 (zA 217) _ ⟨[(0,_),(1,_)],[]⟩ _)
 skip
 (repeat' first|refine gA ?_|refine gT ?_ ?_<;>intro hv<;>try cases hv;done|fail)
 all_goals refine aM ?_<;>exact⟨(_,_),⟨rfl,rfl⟩,zAW _,zAW _⟩
noncomputable def Mul64(a b:Int):Int×Int:=(zH4 a b).choose
def zE5(a b:Int):Om CC 217 [.t (.int .u64 a),.t (.int .u64 b)] []=some (.val (.tup [.t (.int .u64 (Mul64 a b).1),.t (.int .u64 (Mul64 a b).2)]),[]):=(zH4 a b).choose_spec.1
def zYM(a b:Int):U64 (Mul64 a b).1∧U64 (Mul64 a b).2:=(zH4 a b).choose_spec.2
def zJY(a:Int)(b:Int):∃x:Int×Int,Om CC 177 [.t (.int .i64 a),.t (.int .i64 b)] []=some (.val (.tup [.t (.int .i64 x.1),.t (.int .i64 x.2)]),[])∧R64 x.1:=by
 refine zH zZz rfl ?_
 (have F_:=c5 zF zN zAh yCG (c5 zLw zKA zHZ @zGM (c2 @zFm @zE5));show W CC 0 26 (zA 177) _ ⟨[(0,_),(1,_)],[]⟩ _)
 (repeat' first|refine gA ?_|refine gT ?_ ?_<;>intro hv<;>try cases hv;done|fail)
 all_goals refine aM ?_<;>exact⟨(_,_),⟨rfl,rfl⟩,by first|exact zCp _|exact zDC _ _ _|(simp only[R64];decide)⟩
noncomputable def NMul(a:Int)(b:Int):Int×Int:=(zJY a b).choose
def zPL(a:Int)(b:Int):Om CC 177 [.t (.int .i64 a),.t (.int .i64 b)] []=some (.val (.tup [.t (.int .i64 (NMul a b).1),.t (.int .i64 (NMul a b).2)]),[]):=(zJY a b).choose_spec.1
def zS2(a:Int)(b:Int):R64 (NMul a b).1:=(zJY a b).choose_spec.2
def zJx(a b:Int)(hb:R64 b):∃x:Int×Int,Om CC 179 [.t (.int .i64 a),.t (.int .i64 b)] []=some (.val (.tup [.t (.int .i64 x.1),.t (.int .i64 x.2)]),[])∧R64 x.1:=by
 refine zH zY3 rfl ?_
 (have F_:=c5 zF zN zAh yAR (c5 zLw zKA zHZ @zGM (c2 @zFm @zE5));show W CC 0 21 (zA 179) _ ⟨[(0,_),(1,_)],[]⟩ _)
 by_cases h0:b=0
 ·subst h0
  (repeat' first|refine gA ?_|refine gT ?_ ?_<;>intro hv<;>try cases hv;done|fail)
  all_goals refine aM ?_<;>exact⟨(_,_),⟨rfl,rfl⟩,by first|exact zDC _ _ _|(simp only[R64];decide)⟩
 have hn:=zPV hb h0;have hq:(b==0)=false:=by simpa using h0
 have h0_:=fun P t k a=>zCH P t k a _ hn
 (repeat' first|refine gA ?_|refine gT ?_ ?_<;>intro hv<;>try cases hv;done|fail)
 all_goals refine aM ?_<;>exact⟨(_,_),⟨rfl,rfl⟩,by first|exact zDC _ _ _|(simp only[R64];decide)⟩
def zJp(a b:Int)(hb:R64 b):∃x:Int×Int,Om CC 182 [.t (.int .i64 a),.t (.int .i64 b)] []=some (.val (.tup [.t (.int .i64 x.1),.t (.int .i64 x.2)]),[])∧R64 x.1:=by
 refine zH zYp rfl ?_
 (have F_:=c5 zF zN zAh yB0 (c5 zLw zKA zHZ @zGM (c2 @zFm @zE5));show W CC 0 18 (zA 182) _ ⟨[(0,_),(1,_)],[]⟩ _)
 by_cases h0:b=0
 ·subst h0
  (repeat' first|refine gA ?_|refine gT ?_ ?_<;>intro hv<;>try cases hv;done|fail)
  all_goals refine aM ?_<;>exact⟨(_,_),⟨rfl,rfl⟩,by first|exact zDC _ _ _|(simp only[R64];decide)⟩
 have hn:=zPV hb h0;have hq:(b==0)=false:=by simpa using h0
 have h0_:=fun P t k a=>zGj P t k a _ hn
 (repeat' first|refine gA ?_|refine gT ?_ ?_<;>intro hv<;>try cases hv;done|fail)
 all_goals refine aM ?_<;>exact⟨(_,_),⟨rfl,rfl⟩,by first|exact zDC _ _ _|(simp only[R64];decide)⟩
open Classical in
noncomputable def NQuo(a b:Int):Int×Int:=if h:R64 b then (zJx a b h).choose else (0,0)
def zXB(a b:Int)(h:R64 b):Om CC 179 [.t (.int .i64 a),.t (.int .i64 b)] []=some (.val (.tup [.t (.int .i64 (NQuo a b).1),.t (.int .i64 (NQuo a b).2)]),[]):=by
 unfold NQuo;rw[dif_pos h];exact(zJx a b h).choose_spec.1
def yDH(a b:Int):R64 (NQuo a b).1:=by
 unfold NQuo;split
 ·rename_i h;exact(zJx a b h).choose_spec.2
 simp [R64]
open Classical in
noncomputable def NMod(a b:Int):Int×Int:=if h:R64 b then (zJp a b h).choose else (0,0)
def zXL(a b:Int)(h:R64 b):Om CC 182 [.t (.int .i64 a),.t (.int .i64 b)] []=some (.val (.tup [.t (.int .i64 (NMod a b).1),.t (.int .i64 (NMod a b).2)]),[]):=by
 unfold NMod;rw[dif_pos h];exact(zJp a b h).choose_spec.1
def yDx(a b:Int):R64 (NMod a b).1:=by
 unfold NMod;split
 ·rename_i h;exact(zJp a b h).choose_spec.2
 simp [R64]
def zGR(a:Int):∃x:Int×Int,Om CC 281 [.t (.int .i64 a)] []=some (.val (.tup [.t (.int .i64 x.1),.t (.int .i64 x.2)]),[])∧R64 x.1:=by
 refine zH zY2 rfl ?_
 (have F_:=c3 zF yBJ (c2 zR2 @zPL);show W CC 0 8 (zA 281) _ ⟨[(0,_)],[]⟩ _)
 (repeat' first|refine gA ?_|refine gT ?_ ?_<;>intro hv<;>try cases hv;done|fail)
 all_goals refine aM ?_<;>exact⟨(_,_),⟨rfl,rfl⟩,zS2 _ _⟩
noncomputable def zN0(a:Int):Int×Int:=(zGR a).choose
def zSl(a:Int):Om CC 281 [.t (.int .i64 a)] []=some (.val (.tup [.t (.int .i64 (zN0 a).1),.t (.int .i64 (zN0 a).2)]),[]):=(zGR a).choose_spec.1
def zWe(a:Int):R64 (zN0 a).1:=(zGR a).choose_spec.2
def zFa:List Nat:=[0,1,2,2,3,3,3,3,4,4,4,4,4,4,4,4,5,5,5,5,5,5,5,5,5,5,5,5,5,5,5,5,6,6,6,6,6,6,6,6,6,6,6,6,6,6,6,6,6,6,6,6,6,6,6,6,6,6,6,6,6,6,6,6,7,7,7,7,7,7,7,7,7,7,7,7,7,7,7,7,7,7,7,7,7,7,7,7,7,7,7,7,7,7,7,7,7,7,7,7,7,7,7,7,7,7,7,7,7,7,7,7,7,7,7,7,7,7,7,7,7,7,7,7,7,7,7,7,8,8,8,8,8,8,8,8,8,8,8,8,8,8,8,8,8,8,8,8,8,8,8,8,8,8,8,8,8,8,8,8,8,8,8,8,8,8,8,8,8,8,8,8,8,8,8,8,8,8,8,8,8,8,8,8,8,8,8,8,8,8,8,8,8,8,8,8,8,8,8,8,8,8,8,8,8,8,8,8,8,8,8,8,8,8,8,8,8,8,8,8,8,8,8,8,8,8,8,8,8,8,8,8,8,8,8,8,8,8,8,8,8,8,8,8,8,8,8,8,8,8,8,8,8,8,8,8]
def zK3:((List.range 256).all fun b=>match nth zFa b with
  |some m=>decide (m≤8)&&decide (b<2 ^ m)&&(b==0||decide (2 ^ m≤2 * b))
  |none=>false)=true:=by kernel_rfl
def zYj{S:List Nat}{z:Int}(hS:S=zFa)(h0:0≤z)(h1:z<256):index Tryz.prog 9 (.t (.str S)) z=some (.t (.int .u8 (((nth zFa z.toNat).getD 0:Nat):Int))):=by
 subst hS;obtain⟨b,rfl⟩:=Int.eq_ofNat_of_zero_le h0;have h:=List.all_eq_true.1 zK3 b (List.mem_range.2 (by omega));unfold index;rw[zFs];simp only[idx];cases hn:nth zFa b with
 |none=>rw[hn] at h;cases h
 |some m=>simp [hn,idx]
def zYL{z:Int}(h0:0≤z)(h1:z<256):∃m:Nat,(nth zFa z.toNat).getD 0=m∧m≤8∧z<((2 ^ m:Nat):Int)∧(z≠0→((2 ^ m:Nat):Int)≤2 * z):=by
 obtain⟨b,rfl⟩:=Int.eq_ofNat_of_zero_le h0;have h:=List.all_eq_true.1 zK3 b (List.mem_range.2 (by omega));cases hn:nth zFa b with
 |none=>rw[hn] at h;cases h
 |some m =>
  rw[hn] at h;simp only[Bool.and_eq_true,decide_eq_true_eq,Bool.or_eq_true,beq_iff_eq] at h;refine⟨m,by simp [hn],h.1.1,by omega,fun hb=>?_⟩;rcases h.2 with h2|h2
  ·omega
  omega
def zQt(x:Int):0≤IntKind.u8.wrap x∧IntKind.u8.wrap x<256:=by
 simp only[IntKind.wrap,IntKind.signed,IntKind.bits,Bool.false_and];simp;omega
def yHZ{x:Int}(h0:0≤x)(h1:x<256):IntKind.u8.wrap x=x:=by
 simp only[IntKind.wrap,IntKind.signed,IntKind.bits,Bool.false_and];simp;omega
def zCz (x z c:Int) (K:Nat) (hc:c=K) (hK:K≤56) (hz:z=x / ((2 ^ K:Nat):Int)) (z0:0≤z) (z1:z<256) (hx0:0≤x) (hnz:x≠0→z≠0) :
  ∃a:Int,(Out.val (AV.t (.int .i64 (IntKind.i64.wrap (c+IntKind.i64.wrap (((nth zFa z.toNat).getD 0:Nat):Int)))))=Out.val (.t (.int .i64 a))∧([]:Heap)=[]) ∧
   ∃m:Nat,a=m∧m≤64∧x<((2 ^ m:Nat):Int)∧(x≠0→((2 ^ m:Nat):Int)≤2 * x):=by
 subst hc;obtain⟨m,hm,h8,hz1,hz2⟩:=zYL z0 z1;rw[hm,wrap64 (x:=(m:Int)) (by omega) (by omega),wrap64 (by omega) (by omega)];refine⟨((K+m:Nat):Int),⟨by congr 4,rfl⟩,K+m,rfl,by omega,?_,fun h=>?_⟩
 ·rw[Nat.pow_add];have hp:(0:Int)<((2 ^ K:Nat):Int):=by
   have:=Nat.pow_pos (n:=K) (show 0<2 by decide);omega
  have h1:x<((2 ^ K:Nat):Int) * (z+1):=by rw[hz,Int.mul_add,Int.mul_one];exact Int.lt_mul_ediv_self_add hp
  have h2:((2 ^ K:Nat):Int) * (z+1)≤((2 ^ K:Nat):Int) * ((2 ^ m:Nat):Int):=Int.mul_le_mul_of_nonneg_left (by omega) (by omega)
  push_cast at *
  omega
 rw[Nat.pow_add];have hp:(0:Int)≤((2 ^ K:Nat):Int):=Int.natCast_nonneg _;have h1:((2 ^ K:Nat):Int) * z≤x:=by rw[hz];exact Int.mul_ediv_self_le (by have:=Nat.pow_pos (n:=K) (show 0<2 by decide);omega)
 have h2:((2 ^ K:Nat):Int) * ((2 ^ m:Nat):Int)≤((2 ^ K:Nat):Int) * (2 * z):=Int.mul_le_mul_of_nonneg_left (hz2 (hnz h)) hp;have h3:((2 ^ K:Nat):Int) * (2 * z)=2 * (((2 ^ K:Nat):Int) * z):=by rw[Int.mul_left_comm]
 push_cast at *
 omega
def zTR(x:Int)(hx:U64 x):∃n:Int,Om CC 292 [.t (.int .u64 x)] []=some (.val (.t (.int .i64 n)),[])∧∃m:Nat,n=m∧m≤64∧x<((2 ^ m:Nat):Int)∧(x≠0→((2 ^ m:Nat):Int)≤2 * x):=by
 refine zH zZo rfl ?_
 (have F_:=c5 zG zE zD zAh yEV;show W CC 0 25 (zA 292) _ ⟨[(0,_)],[]⟩ _)
 have e1:IntKind.i64.wrap (32+16)=48:=by decide
 have e2:IntKind.i64.wrap (0+16)=16:=by decide
 have e3:IntKind.i64.wrap (48+8)=56:=by decide
 have e4:IntKind.i64.wrap (16+8)=24:=by decide
 have e5:IntKind.i64.wrap (32+8)=40:=by decide
 have e6:IntKind.i64.wrap (0+8)=8:=by decide
 unfold U64 at hx
 (repeat' first|refine gA ?_|refine gT ?_ ?_<;>intro hv<;>try cases hv;done|fail)
 all_goals simp only[decide_eq_true_eq,decide_eq_false_iff_not] at *
 all_goals (
  rw[zYj]
  rotate_left
  ·kernel_rfl
  ·exact(zQt _).1
  ·exact(zQt _).2
  (repeat' first|refine gA ?_|refine gT ?_ ?_<;>intro hv<;>try cases hv;done|fail)
  (refine aM ?_)
  rw[yHZ (by omega) (by omega)]
  first
  |exact zCz x _ _ 56 (by decide) (by decide) (by omega) (by omega) (by omega) hx.1 (by omega)
  |exact zCz x _ _ 48 (by decide) (by decide) (by omega) (by omega) (by omega) hx.1 (by omega)
  |exact zCz x _ _ 40 (by decide) (by decide) (by omega) (by omega) (by omega) hx.1 (by omega)
  |exact zCz x _ _ 32 (by decide) (by decide) (by omega) (by omega) (by omega) hx.1 (by omega)
  |exact zCz x _ _ 24 (by decide) (by decide) (by omega) (by omega) (by omega) hx.1 (by omega)
  |exact zCz x _ _ 16 (by decide) (by decide) (by omega) (by omega) (by omega) hx.1 (by omega)
  |exact zCz x _ _ 8 (by decide) (by decide) (by omega) (by omega) (by omega) hx.1 (by omega)
  |exact zCz x _ _ 0 (by decide) (by decide) (by omega) (by omega) (by omega) hx.1 (by omega))
def zWs(x:Int)(hx:U64 x):∃m:Nat,Om CC 292 [.t (.int .u64 x)] []=some (.val (.t (.int .i64 (m:Int))),[])∧m≤64∧x<((2 ^ m:Nat):Int)∧(x≠0→((2 ^ m:Nat):Int)≤2 * x):=by
 obtain⟨n,h1,m,rfl,h2⟩:=zTR x hx;exact⟨m,h1,h2⟩
def zWo(x:Int)(hx:U64 x):∃s:Nat,Om CC 282 [.t (.int .u64 x)] []=some (.val (.t (.int .i64 (s:Int))),[])∧s≤64 ∧
  (x≠0→9223372036854775808≤x * ((2 ^ s:Nat):Int)∧x * ((2 ^ s:Nat):Int)<18446744073709551616):=by
 obtain⟨m,hm,h1,h2,h3⟩:=zWs x hx;refine zH zXP rfl ?_
 (have F_:=c3 zG zAh (c2 yFH yCD);show W CC 0 6 (zA 282) _ ⟨[(0,_)],[]⟩ _)
 have hw:IntKind.i64.wrap (64 - (m:Int))=((64 - m:Nat):Int):=by rw[wrap64]<;>omega
 (repeat' first|refine gA ?_|refine gT ?_ ?_<;>intro hv<;>try cases hv;done|fail)
 (refine aM ?_)
 refine⟨64 - m,⟨rfl,rfl⟩,by omega,fun h0=>?_⟩;have hp:((2 ^ m:Nat):Int) * ((2 ^ (64 - m):Nat):Int)=18446744073709551616:=by
  have:2 ^ m * 2 ^ (64 - m)=18446744073709551616:=by rw[← Nat.pow_add,show m+(64 - m)=64 by omega]
  rw[← Int.natCast_mul,this];rfl
 have hq:(0:Int)<((2 ^ (64 - m):Nat):Int):=by
  have:=Nat.pow_pos (n:=64 - m) (show 0<2 by decide);omega
 have h4:=Int.mul_le_mul_of_nonneg_right (h3 h0) (Int.le_of_lt hq);have h5:=Int.mul_lt_mul_of_pos_right h2 hq;rw[hp] at h4 h5;rw[Int.mul_assoc] at h4;omega
def zHL(r:Int):Nat:=if r<4294967296 then (4294967296 - r).toNat else 4294967297
def zI2{r y:Int}(hr:0≤r)(hy:1≤y)(hy2:y<4294967296)(h:IntKind.u64.wrap (r+y)<4294967296)(hu:r<18446744073709551616):zHL (IntKind.u64.wrap (r+y))<zHL r:=by
 rw[zDw] at *;unfold zHL;rw[if_pos h];split<;>omega
set_option maxHeartbeats 8000000
def zMA(hi lo y:Int)(h1:U64 hi)(h2:U64 lo)(h3:U64 y)(h4:hi<y):∃x:Int×Int,Om CC 252 [.t (.int .u64 hi),.t (.int .u64 lo),.t (.int .u64 y)] []=some (.val (.tup [.t (.int .u64 x.1),.t (.int .u64 x.2)]),[])∧True:=by
 refine zH yAr rfl ?_
 (have F_:=c5 zG zB7 zAh yDk (c2 yBr yCI);show W CC 0 135 (zA 252) _ ⟨[(0,_),(1,_),(2,_)],[]⟩ _)
 obtain⟨s,hs,hs1,hs2⟩:=zWo y h3;have hy0:y≠0:=by unfold U64 at *;omega
 have hb1:(y==0)=false:=by simpa using hy0
 have hb2:decide (y≤hi)=false:=by simpa using h4
 have hws:IntKind.u64.wrap (s:Int)=s:=by rw[zDw];omega
 have hs0:(0:Int)≤s:=by omega
 have h64:0≤IntKind.u64.wrap (64 - (s:Int)):=(zAW _).1;have hY:IntKind.u64.wrap (y * 2 ^ min ((s:Int)).toNat IntKind.u64.bits)=y * ((2 ^ s:Nat):Int):=by
  have:min ((s:Int)).toNat IntKind.u64.bits=s:=by simp [IntKind.bits];omega
  rw[this,zDw];have:=hs2 hy0
  push_cast at *
  omega
 obtain⟨hy1,hy2⟩:=hs2 hy0;generalize y * ((2 ^ s:Nat):Int)=Y at hY hy1 hy2;have hyn:Y / 4294967296≠0:=by omega
 cases hz:(hi==0) with
 |true =>
  have h0_:=fun P t k a=>zCH P t k a _ hy0
  have h1_:=fun P t k a=>zGj P t k a _ hy0
  (repeat' first|refine gA ?_|refine gT ?_ ?_<;>intro hv<;>try cases hv;done|fail)
  all_goals refine aM ?_<;>exact⟨(_,_),⟨rfl,rfl⟩,trivial⟩
 |false =>
  have h0_:=fun P t k k2 a=>zZJ P t k k2 a _ hs0
  have h1_:=fun P t k k2 a=>zL6 P t k k2 a _ h64
  have h2_:=fun P t k a=>zCH P t k a _ hyn
  simp only[Int.toNat_natCast] at hY
  (repeat' first|refine gA ?_|refine gT ?_ ?_<;>intro hv<;>try cases hv;done|fail)
  generalize zCX .and .u64 Y 4294967295=A;generalize IntKind.u64.wrap (lo * 2 ^ min s IntKind.u64.bits)=L;generalize zCX .and .u64 L 4294967295=D;generalize hB:zCX .or .u64 _ _=B;have hr0:U64 (IntKind.u64.wrap (B - IntKind.u64.wrap (IntKind.u64.wrap (B.tdiv (Y / 4294967296)) * (Y / 4294967296)))):=zAW _;generalize IntKind.u64.wrap (B - IntKind.u64.wrap (IntKind.u64.wrap (B.tdiv (Y / 4294967296)) * (Y / 4294967296)))=r0 at *;generalize IntKind.u64.wrap (B.tdiv (Y / 4294967296))=q0 at *;refine W.mono (Q:=fun e st=>e=.exit 0∧∃q:Int,get st.T 2=.t (.int .u64 Y)∧get st.T 8=.t (.int .u64 s)∧get st.T 9=.t (.int .u64 (Y / 4294967296))∧get st.T 10=.t (.int .u64 A)∧get st.T 11=.t (.int .u64 B) ∧
   get st.T 13=.t (.int .u64 (L / 4294967296))∧get st.T 14=.t (.int .u64 D)∧get st.T 15=.t (.int .u64 q)∧st.h=[]∧Ab.get st.T 135=.unk) ?_ ?_
  ·refine zW (α:=Int×Int) (fun a=>⟨[(2,.t (.int .u64 Y)),(8,.t (.int .u64 s)),(9,.t (.int .u64 (Y / 4294967296))),(10,.t (.int .u64 A)),(11,.t (.int .u64 B)),(13,.t (.int .u64 (L / 4294967296))),(14,.t (.int .u64 D)),(15,.t (.int .u64 a.1)),(16,.t (.int .u64 a.2))],[]⟩)
    (fun a=>zHL a.2) (fun a=>U64 a.2) (q0,r0) (by kernel_rfl) hr0 ?_
   rintro⟨q,r⟩ hr
   try dsimp only at hr
   (repeat' first|refine gA ?_|refine gT ?_ ?_<;>intro hv<;>try cases hv;done|fail)
   all_goals first
    |exact⟨rfl,_,rfl,rfl,rfl,rfl,rfl,rfl,rfl,rfl,rfl,rfl⟩
    |exact zB (IntKind.u64.wrap (q - 1),IntKind.u64.wrap (r+Y / 4294967296)) (zI2 hr.1 (by omega) (by omega) (by simpa using hv) hr.2) (zAW _) (by kernel_rfl)
  rintro e ⟨T,h⟩ ⟨rfl,q1,g2,g8,g9,g10,g11,g13,g14,g15,gh,gD⟩;dsimp only at g2 g8 g9 g10 g11 g13 g14 g15 gh gD;subst gh;have h0_:=fun P t k a=>zCH P t k a _ hyn
  (repeat' first|refine gA ?_|refine gT ?_ ?_<;>intro hv<;>try cases hv;done|fail)
  generalize hU:IntKind.u64.wrap (IntKind.u64.wrap (IntKind.u64.wrap (B * 4294967296)+L / 4294967296) - IntKind.u64.wrap (q1 * Y))=U;have hr1:U64 (IntKind.u64.wrap (U - IntKind.u64.wrap (IntKind.u64.wrap (U.tdiv (Y / 4294967296)) * (Y / 4294967296)))):=zAW _;generalize IntKind.u64.wrap (U - IntKind.u64.wrap (IntKind.u64.wrap (U.tdiv (Y / 4294967296)) * (Y / 4294967296)))=r1 at *;generalize IntKind.u64.wrap (U.tdiv (Y / 4294967296))=q2 at *;refine W.mono (Q:=fun e st=>e=.exit 2∧∃q:Int,get st.T 2=.t (.int .u64 Y)∧get st.T 8=.t (.int .u64 s)∧get st.T 14=.t (.int .u64 D)∧get st.T 15=.t (.int .u64 q1)∧get st.T 17=.t (.int .u64 U)∧get st.T 18=.t (.int .u64 q)∧st.h=[]∧Ab.get st.T 135=.unk) ?_ ?_
  ·refine zW (α:=Int×Int) (fun a=>⟨[(2,.t (.int .u64 Y)),(8,.t (.int .u64 s)),(9,.t (.int .u64 (Y / 4294967296))),(10,.t (.int .u64 A)),(14,.t (.int .u64 D)),(15,.t (.int .u64 q1)),(16,.t (.int .u64 a.2)),(17,.t (.int .u64 U)),(18,.t (.int .u64 a.1))],[]⟩)
    (fun a=>zHL a.2) (fun a=>U64 a.2) (q2,r1) (by(have X_:=c5 @g2 @g8 @g9 @g10 (c3 @g14 @g15 @gD);exact aTdX)) hr1 ?_
   rintro⟨q,r⟩ hr
   try dsimp only at hr
   (repeat' first|refine gA ?_|refine gT ?_ ?_<;>intro hv<;>try cases hv;done|fail)
   all_goals first
    |exact⟨rfl,_,rfl,rfl,rfl,rfl,rfl,rfl,rfl,rfl⟩
    |exact zB (IntKind.u64.wrap (q - 1),IntKind.u64.wrap (r+Y / 4294967296)) (zI2 hr.1 (by omega) (by omega) (by simpa using hv) hr.2) (zAW _) (by kernel_rfl)
  rintro e ⟨T',h⟩ ⟨rfl,q3,f2,f8,f14,f15,f17,f18,fh,fD⟩;dsimp only at f2 f8 f14 f15 f17 f18 fh fD;subst fh;clear g2 g8 g9 g10 g11 g13 g14 g15;have h0_:=fun P t k k2 a=>zL6 P t k k2 a _ hs0
  (repeat' first|refine gA ?_|refine gT ?_ ?_<;>intro hv<;>try cases hv;done|fail)
  refine aM ?_ (h0:=by(show yG 135 _=some [];simp only[yG,Ab.get,Nat.beq,fD]));exact⟨(_,_),⟨rfl,rfl⟩,trivial⟩
open Classical in
noncomputable def Div64(hi lo y:Int):Int×Int:=if h:U64 hi∧U64 lo∧U64 y∧hi<y then (zMA hi lo y h.1 h.2.1 h.2.2.1 h.2.2.2).choose else (0,0)
def zVa(hi lo y:Int)(h:U64 hi∧U64 lo∧U64 y∧hi<y):Om CC 252 [.t (.int .u64 hi),.t (.int .u64 lo),.t (.int .u64 y)] []=some (.val (.tup [.t (.int .u64 (Div64 hi lo y).1),.t (.int .u64 (Div64 hi lo y).2)]),[]):=by
 unfold Div64;rw[dif_pos h];exact(zMA hi lo y h.1 h.2.1 h.2.2.1 h.2.2.2).choose_spec.1
def zIw(hi lo a b d:Int):∃x:Int×Int,Om CC 251 [.t (.int .u64 hi),.t (.int .u64 lo),.box 0 0,.box 1 0,.box 2 0] [.box [.t (.int .i64 a)],.box [.t (.int .i64 b)],.box [.t (.int .i64 d)]] =
  some (.val (.tup [.t (.int .i64 x.1),.t (.int .i64 x.2)]),[.box [.t (.int .i64 a)],.box [.t (.int .i64 b)],.box [.t (.int .i64 d)]])∧R64 x.1:=by
 refine uK yAd rfl ?_
 (have F_:=c5 zF zN zAh yCs (c2 zKA @zFm);show W CC 3 22 (zA 251) _ ⟨[(0,_),(1,_),(2,_),(3,_),(4,_)],[_,_,_]⟩ _)
 (repeat' first|refine gA ?_|refine gT ?_ ?_<;>intro hv<;>try cases hv;done|fail)
 (refine aM ?_)
 exact⟨(_,_),⟨rfl,rfl⟩,zDC _ _ _⟩
noncomputable def zRv(hi lo a b d:Int):Int×Int:=(zIw hi lo a b d).choose
def zVU(hi lo a b d:Int):Om CC 251 [.t (.int .u64 hi),.t (.int .u64 lo),.box 0 0,.box 1 0,.box 2 0] [.box [.t (.int .i64 a)],.box [.t (.int .i64 b)],.box [.t (.int .i64 d)]] =
  some (.val (.tup [.t (.int .i64 (zRv hi lo a b d).1),.t (.int .i64 (zRv hi lo a b d).2)]),[.box [.t (.int .i64 a)],.box [.t (.int .i64 b)],.box [.t (.int .i64 d)]]):=(zIw hi lo a b d).choose_spec.1
def zQs(hi lo a b d:Int):R64 (zRv hi lo a b d).1:=(zIw hi lo a b d).choose_spec.2
def zJQ(a b d:Int):∃x:Int×Int,Om CC 220 [.t (.int .i64 a),.t (.int .i64 b),.t (.int .i64 d)] []=some (.val (.tup [.t (.int .i64 x.1),.t (.int .i64 x.2)]),[])∧R64 x.1:=by
 refine zH zXq rfl ?_
 (have F_:=c5 zF zAh yCg zLw (c5 zHZ yFG yFw @zGM (c2 @zE5 @zVU));show W CC 0 61 (zA 220) _ ⟨[(0,_),(1,_),(2,_)],[]⟩ _)
 have hu:=zYM (Size a) (Size b);have hd:=yDM d
 by_cases hlt:(Mul64 (Size a) (Size b)).1<Size d
 ·have hge:decide ((Mul64 (Size a) (Size b)).1 ≥ Size d)=false:=by simpa using hlt
  have hdiv:=zVa (Mul64 (Size a) (Size b)).1 (Mul64 (Size a) (Size b)).2 (Size d) ⟨hu.1,hu.2,hd,hlt⟩;clear hu hd
  (repeat' first|refine gA ?_|refine gT ?_ ?_<;>intro hv<;>try cases hv;done|fail)
  all_goals refine aM ?_<;>exact⟨(_,_),⟨rfl,rfl⟩,by first|exact zQs _ _ _ _ _|(simp only[R64];decide)⟩
 have hge:decide ((Mul64 (Size a) (Size b)).1 ≥ Size d)=true:=by simpa using hlt
 clear hu hd
 (repeat' first|refine gA ?_|refine gT ?_ ?_<;>intro hv<;>try cases hv;done|fail)
 all_goals refine aM ?_<;>exact⟨(_,_),⟨rfl,rfl⟩,by first|exact zQs _ _ _ _ _|(simp only[R64];decide)⟩
noncomputable def Over(a b d:Int):Int×Int:=(zJQ a b d).choose
def zPP(a b d:Int):Om CC 220 [.t (.int .i64 a),.t (.int .i64 b),.t (.int .i64 d)] []=some (.val (.tup [.t (.int .i64 (Over a b d).1),.t (.int .i64 (Over a b d).2)]),[]):=(zJQ a b d).choose_spec.1
def zUL(a b d:Int):R64 (Over a b d).1:=(zJQ a b d).choose_spec.2
def zFS(a b:Int):∃x:Int×Int,Om CC 178 [.t (.int .i64 a),.t (.int .i64 b)] []=some (.val (.tup [.t (.int .i64 x.1),.t (.int .i64 x.2)]),[])∧R64 x.1:=by
 refine zH zXY rfl ?_
 (have F_:=c3 zF yDV (c2 zTk @zPP);show W CC 0 11 (zA 178) _ ⟨[(0,_),(1,_)],[]⟩ _)
 (repeat' first|refine gA ?_|refine gT ?_ ?_<;>intro hv<;>try cases hv;done|fail)
 all_goals refine aM ?_<;>exact⟨(_,_),⟨rfl,rfl⟩,by first|exact zUL _ _ _|(simp only[R64];decide)⟩
noncomputable def zID(a b:Int):Int×Int:=(zFS a b).choose
def zRg(a b:Int):Om CC 178 [.t (.int .i64 a),.t (.int .i64 b)] []=some (.val (.tup [.t (.int .i64 (zID a b).1),.t (.int .i64 (zID a b).2)]),[]):=(zFS a b).choose_spec.1
def zR7(a b:Int):R64 (zID a b).1:=(zFS a b).choose_spec.2
def zF3(a b:Int):∃x:Int×Int,Om CC 180 [.t (.int .i64 a),.t (.int .i64 b)] []=some (.val (.tup [.t (.int .i64 x.1),.t (.int .i64 x.2)]),[])∧R64 x.1:=by
 refine zH yAx rfl ?_
 (have F_:=c3 zF yDq (c2 zTk @zPP);show W CC 0 13 (zA 180) _ ⟨[(0,_),(1,_)],[]⟩ _)
 (repeat' first|refine gA ?_|refine gT ?_ ?_<;>intro hv<;>try cases hv;done|fail)
 all_goals refine aM ?_<;>exact⟨(_,_),⟨rfl,rfl⟩,by first|exact zUL _ _ _|(simp only[R64];decide)⟩
noncomputable def zIC(a b:Int):Int×Int:=(zF3 a b).choose
def zRC(a b:Int):Om CC 180 [.t (.int .i64 a),.t (.int .i64 b)] []=some (.val (.tup [.t (.int .i64 (zIC a b).1),.t (.int .i64 (zIC a b).2)]),[]):=(zF3 a b).choose_spec.1
def zSk(a b:Int):R64 (zIC a b).1:=(zF3 a b).choose_spec.2
def vU:R64 0:=by simp only[R64];decide
def yIb:R64 1:=by simp only[R64];decide
def VOK(v:Val):Prop:=R64 v.n∧v.s.length<4294967281
def yX{n:Int}(k:Int)(h:R64 n):VOK ⟨k,n,[]⟩:=⟨h,by simp⟩
def Zero:Val:=⟨0,0,[]⟩
def yU:VOK Zero:=yX 0 vU
def zLy(a:Int):∃x:Bool,Om CC 244 [.t (.int .u64 a)] []=some (.val (.t (.bool x)),[])∧(True):=by
 refine zH zZK rfl ?_
 (have F_:=c2 zAh yDG;show W CC 0 6 (zA 244) _ ⟨[(0,_)],[]⟩ _)
 (repeat' first|refine gA ?_|refine gT ?_ ?_<;>intro hv<;>try cases hv;done|fail)
 all_goals refine aM ?_<;>exact⟨_,⟨rfl,rfl⟩,by trivial⟩
noncomputable def yBy(a:Int):Bool:=(zLy a).choose
def zTa(a:Int):Om CC 244 [.t (.int .u64 a)] []=some (.val (.t (.bool (yBy a))),[]):=(zLy a).choose_spec.1
def zLf(a:Int)(b:Int):∃x:Int,Om CC 212 [.t (.int .u64 a),.t (.int .u64 b)] []=some (.val (.t (.int .i64 x)),[])∧(True):=by
 refine zH zYf rfl ?_
 (have F_:=c3 zAh yGb (c2 yCQ @zTa);show W CC 0 20 (zA 212) _ ⟨[(0,_),(1,_)],[]⟩ _)
 (repeat' first|refine gA ?_|refine gT ?_ ?_<;>intro hv<;>try cases hv;done|fail)
 all_goals refine aM ?_<;>exact⟨_,⟨rfl,rfl⟩,by trivial⟩
noncomputable def yGz(a:Int)(b:Int):Int:=(zLf a b).choose
def zTI(a:Int)(b:Int):Om CC 212 [.t (.int .u64 a),.t (.int .u64 b)] []=some (.val (.t (.int .i64 (yGz a b))),[]):=(zLf a b).choose_spec.1
def zKy(a:Int):∃x:Bool,Om CC 253 [.t (.int .i64 a)] []=some (.val (.t (.bool x)),[])∧(True):=by
 refine zH zZZ rfl ?_
 (have F_:=c2 zF yFW;show W CC 0 6 (zA 253) _ ⟨[(0,_)],[]⟩ _)
 (repeat' first|refine gA ?_|refine gT ?_ ?_<;>intro hv<;>try cases hv;done|fail)
 all_goals refine aM ?_<;>exact⟨_,⟨rfl,rfl⟩,by trivial⟩
noncomputable def yE8(a:Int):Bool:=(zKy a).choose
def zTf(a:Int):Om CC 253 [.t (.int .i64 a)] []=some (.val (.t (.bool (yE8 a))),[]):=(zKy a).choose_spec.1
def zKp(a:Int)(b:Int):∃x:Int,Om CC 221 [.t (.int .i64 a),.t (.int .i64 b)] []=some (.val (.t (.int .i64 x)),[])∧(True):=by
 refine zH zXo rfl ?_
 (have F_:=c3 zF yFv (c2 yC4 @zTf);show W CC 0 20 (zA 221) _ ⟨[(0,_),(1,_)],[]⟩ _)
 (repeat' first|refine gA ?_|refine gT ?_ ?_<;>intro hv<;>try cases hv;done|fail)
 all_goals refine aM ?_<;>exact⟨_,⟨rfl,rfl⟩,by trivial⟩
noncomputable def yEd(a:Int)(b:Int):Int:=(zKp a b).choose
def zMX(a:Int)(b:Int):Om CC 221 [.t (.int .i64 a),.t (.int .i64 b)] []=some (.val (.t (.int .i64 (yEd a b))),[]):=(zKp a b).choose_spec.1
def zMn(a:Int):∃x:Bool,Om CC 278 [.t (.int .u8 a)] []=some (.val (.t (.bool x)),[])∧(True):=by
 refine zH zXF rfl ?_
 (have F_:=c2 zE yFT;show W CC 0 6 (zA 278) _ ⟨[(0,_)],[]⟩ _)
 (repeat' first|refine gA ?_|refine gT ?_ ?_<;>intro hv<;>try cases hv;done|fail)
 all_goals refine aM ?_<;>exact⟨_,⟨rfl,rfl⟩,by trivial⟩
noncomputable def yG7(a:Int):Bool:=(zMn a).choose
def zVY(a:Int):Om CC 278 [.t (.int .u8 a)] []=some (.val (.t (.bool (yG7 a))),[]):=(zMn a).choose_spec.1
def zMS(a:Int)(b:Int):∃x:Int,Om CC 245 [.t (.int .u8 a),.t (.int .u8 b)] []=some (.val (.t (.int .i64 x)),[])∧(True):=by
 refine zH zZl rfl ?_
 (have F_:=c3 zE yDo (c2 yEb @zVY);show W CC 0 20 (zA 245) _ ⟨[(0,_),(1,_)],[]⟩ _)
 (repeat' first|refine gA ?_|refine gT ?_ ?_<;>intro hv<;>try cases hv;done|fail)
 all_goals refine aM ?_<;>exact⟨_,⟨rfl,rfl⟩,by trivial⟩
noncomputable def yIh(a:Int)(b:Int):Int:=(zMS a b).choose
def zVQ(a:Int)(b:Int):Om CC 245 [.t (.int .u8 a),.t (.int .u8 b)] []=some (.val (.t (.int .i64 (yIh a b))),[]):=(zMS a b).choose_spec.1
def zKX(a:List Nat):∃x:Bool,Om CC 279 [.t (.str a)] []=some (.val (.t (.bool x)),[])∧(True):=by
 refine zH zXU rfl ?_
 (have F_:=c2 zD yGP;show W CC 0 6 (zA 279) _ ⟨[(0,_)],[]⟩ _)
 (repeat' first|refine gA ?_|refine gT ?_ ?_<;>intro hv<;>try cases hv;done|fail)
 all_goals refine aM ?_<;>exact⟨_,⟨rfl,rfl⟩,by trivial⟩
noncomputable def yCm(a:List Nat):Bool:=(zKX a).choose
def zTL(a:List Nat):Om CC 279 [.t (.str a)] []=some (.val (.t (.bool (yCm a))),[]):=(zKX a).choose_spec.1
def zKD(a:List Nat)(b:List Nat):∃x:Int,Om CC 246 [.t (.str a),.t (.str b)] []=some (.val (.t (.int .i64 x)),[])∧(True):=by
 refine zH yAy rfl ?_
 (have F_:=c3 zD yCz (c2 yDr @zTL);show W CC 0 20 (zA 246) _ ⟨[(0,_),(1,_)],[]⟩ _)
 (repeat' first|refine gA ?_|refine gT ?_ ?_<;>intro hv<;>try cases hv;done|fail)
 all_goals refine aM ?_<;>exact⟨_,⟨rfl,rfl⟩,by trivial⟩
noncomputable def yFd(a:List Nat)(b:List Nat):Int:=(zKD a b).choose
def zS3(a:List Nat)(b:List Nat):Om CC 246 [.t (.str a),.t (.str b)] []=some (.val (.t (.int .i64 (yFd a b))),[]):=(zKD a b).choose_spec.1
def zMB(l:List Int)(nl cl:Bool)(hl:l.length<9223372036854775808):∃x:Int,Om CC 211 [.t (.sl nl cl (l.map intC))] []=some (.val (.t (.int .i64 x)),[])∧True:=by
 refine zH zYH rfl ?_
 (have F_:=c3 zG zK yDw;show W CC 0 18 (zA 211) _ ⟨[(0,_)],[]⟩ _)
 (repeat' first|refine gA ?_|refine gT ?_ ?_<;>intro hv<;>try cases hv;done|fail)
 refine zW (α:=Nat) (fun i=>⟨[(3,.t (.int .i64 0)),(6,.t (.sl nl cl (l.map intC))),(7,.t (.int .i64 l.length)),(8,.t (.int .i64 i))],[]⟩) (fun i=>l.length - i) (fun i=>i≤l.length) 0 (by kernel_rfl) (Nat.zero_le _) ?_;intro i hi
 by_cases hi':i<l.length
 ·have hw:=wI64 i (by omega);have he:l[i]?=some l[i]:=List.getElem?_eq_getElem hi';have hd:decide ((i:Int)<l.length)=true:=by simpa using hi'
  (repeat' first|refine gA ?_|refine gT ?_ ?_<;>intro hv<;>try cases hv;done|fail)
  all_goals first
   |((refine aM ?_);exact⟨_,⟨rfl,rfl⟩,trivial⟩)
   |exact zB (i+1) (by omega) (by omega) (by kernel_rfl)
 have hd:decide ((i:Int)<l.length)=false:=by simpa using hi'
 (repeat' first|refine gA ?_|refine gT ?_ ?_<;>intro hv<;>try cases hv;done|fail)
 (refine aM ?_)
 exact⟨_,⟨rfl,rfl⟩,trivial⟩
def zUn(a b c:Int):∃x:Int,Om CC 211 [.t (.sl false false [[.int .i64 a],[.int .i64 b],[.int .i64 c]])] []=some (.val (.t (.int .i64 x)),[]):=by
 obtain⟨x,h,_⟩:=zMB [a,b,c] false false (by simp);exact⟨x,h⟩
noncomputable def Or3(a b c:Int):Int:=(zUn a b c).choose
def yBk(a b c:Int):Om CC 211 [.t (.sl false false [[.int .i64 a],[.int .i64 b],[.int .i64 c]])] []=some (.val (.t (.int .i64 (Or3 a b c))),[]):=(zUn a b c).choose_spec
def zUH(a b:Int):∃x:Int,Om CC 211 [.t (.sl false false [[.int .i64 a],[.int .i64 b]])] []=some (.val (.t (.int .i64 x)),[]):=by
 obtain⟨x,h,_⟩:=zMB [a,b] false false (by simp);exact⟨x,h⟩
noncomputable def Or2(a b:Int):Int:=(zUH a b).choose
def yAV(a b:Int):Om CC 211 [.t (.sl false false [[.int .i64 a],[.int .i64 b]])] []=some (.val (.t (.int .i64 (Or2 a b))),[]):=(zUH a b).choose_spec
def zMf(v:Val):∃x:Bool,Om CC 209 [.t (.agg [.int .u8 v.k,.int .i64 v.n,.str v.s])] []=some (.val (.t (.bool x)),[])∧(True):=by
 refine zH yAA rfl ?_
 (have F_:=c5 zF zE zD zC yBM;show W CC 0 11 (zA 209) _ ⟨[(0,_)],[]⟩ _)
 (repeat' first|refine gA ?_|refine gT ?_ ?_<;>intro hv<;>try cases hv;done|fail)
 all_goals refine aM ?_<;>exact⟨_,⟨rfl,rfl⟩,by trivial⟩
noncomputable def yHI(v:Val):Bool:=(zMf v).choose
def zJA(v:Val):Om CC 209 [.t (.agg [.int .u8 v.k,.int .i64 v.n,.str v.s])] []=some (.val (.t (.bool (yHI v))),[]):=(zMf v).choose_spec.1
def xaU:=c5 zF zN zE zD (c2 zC zRK)
def zGW(b:Bool):∃x:Val,Om CC 87 [.t (.bool b)] []=some (.val (.t (.agg [.int .u8 x.k,.int .i64 x.n,.str x.s])),[])∧(VOK x):=by
 refine zH zOt rfl ?_
 (have F_:=xaU;show W CC 0 6 (zA 87) _ ⟨[(0,_)],[]⟩ _)
 (repeat' first|refine gA ?_|refine gT ?_ ?_<;>intro hv<;>try cases hv;done|fail)
 all_goals refine aM ?_<;>exact⟨⟨_,_,_⟩,⟨rfl,rfl⟩,by first|exact yX _ yIb|exact yX _ vU⟩
noncomputable def uN(b:Bool):Val:=(zGW b).choose
def qL(b:Bool):Om CC 87 [.t (.bool b)] []=some (.val (.t (.agg [.int .u8 (uN b).k,.int .i64 (uN b).n,.str (uN b).s])),[]):=(zGW b).choose_spec.1
def zCr(b:Bool):VOK (uN b):=(zGW b).choose_spec.2
def xaV:=c5 zF zN zE zD (c3 zC zWB (c2 zDT @qL))
def zJt(v:Val):∃x:Val,Om CC 88 [.t (.agg [.int .u8 v.k,.int .i64 v.n,.str v.s])] []=some (.val (.t (.agg [.int .u8 x.k,.int .i64 x.n,.str x.s])),[])∧(VOK x):=by
 refine zH zR4 rfl ?_
 (have F_:=xaV;show W CC 0 11 (zA 88) _ ⟨[(0,_)],[]⟩ _)
 (repeat' first|refine gA ?_|refine gT ?_ ?_<;>intro hv<;>try cases hv;done|fail)
 all_goals refine aM ?_<;>exact⟨⟨_,_,_⟩,⟨rfl,rfl⟩,by first|exact yU|exact zCr _⟩
noncomputable def NotV(v:Val):Val:=(zJt v).choose
def zGq(v:Val):Om CC 88 [.t (.agg [.int .u8 v.k,.int .i64 v.n,.str v.s])] []=some (.val (.t (.agg [.int .u8 (NotV v).k,.int .i64 (NotV v).n,.str (NotV v).s])),[]):=(zJt v).choose_spec.1
def zGk(v:Val):VOK (NotV v):=(zJt v).choose_spec.2
def zKN(v:Val):∃x:Bool×Int×Int,Om CC 210 [.t (.agg [.int .u8 v.k,.int .i64 v.n,.str v.s])] []=some (.val (.tup [.t (.bool x.1),.t (.int .u64 x.2.1),.t (.int .u64 x.2.2)]),[])∧(True):=by
 refine zH zYn rfl ?_
 (have F_:=c5 zF zE zD zC (c5 zAh yGg zHZ @zE5 @zJA);show W CC 0 29 (zA 210) _ ⟨[(0,_)],[]⟩ _)
 (repeat' first|refine gA ?_|refine gT ?_ ?_<;>intro hv<;>try cases hv;done|fail)
 all_goals refine aM ?_<;>exact⟨(_,_,_),⟨rfl,rfl⟩,by trivial⟩
noncomputable def zOU(v:Val):Bool×Int×Int:=(zKN v).choose
def zUw(v:Val):Om CC 210 [.t (.agg [.int .u8 v.k,.int .i64 v.n,.str v.s])] []=some (.val (.tup [.t (.bool (zOU v).1),.t (.int .u64 (zOU v).2.1),.t (.int .u64 (zOU v).2.2)]),[]):=(zKN v).choose_spec.1
def zG1(k n:Int)(s:List Nat)(k' n':Int)(s':List Nat):binop Tryz.prog .eql 23 (.t (.agg [.int .u8 k,.int .i64 n,.str s])) (.t (.agg [.int .u8 k',.int .i64 n',.str s'])) =
  some (.t (.bool (decide ((⟨k,n,s⟩:Val)=⟨k',n',s'⟩)))):=by
 have h:=yEC 98 ⟨k,n,s⟩ ⟨k',n',s'⟩;simp only[Val.c] at h;rw[zYg _ _ _ _ yEe,h];rfl
def uZ{α:Type}(a:α)(l:List α):idx (a::l) 0=some a:=rfl
def zIs(r:Int):∃x:Bool,Om CC 243 [.t (.int .i32 r)] []=some (.val (.t (.bool x)),[])∧(True):=by
 refine zH zZa rfl ?_
 (have F_:=c2 zNr yD9;show W CC 0 17 (zA 243) _ ⟨[(0,_)],[]⟩ _)
 (repeat' first|refine gA ?_|refine gT ?_ ?_<;>intro hv<;>try cases hv;done|fail)
 all_goals refine aM ?_<;>exact⟨_,⟨rfl,rfl⟩,by trivial⟩
noncomputable def zNS(r:Int):Bool:=(zIs r).choose
def zPx(r:Int):Om CC 243 [.t (.int .i32 r)] []=some (.val (.t (.bool (zNS r))),[]):=(zIs r).choose_spec.1
def zHW(r:Int):∃x:Bool,Om CC 242 [.t (.int .i32 r)] []=some (.val (.t (.bool x)),[])∧(True):=by
 refine zH zZ2 rfl ?_
 (have F_:=c2 zNr yFx;show W CC 0 9 (zA 242) _ ⟨[(0,_)],[]⟩ _)
 (repeat' first|refine gA ?_|refine gT ?_ ?_<;>intro hv<;>try cases hv;done|fail)
 all_goals refine aM ?_<;>exact⟨_,⟨rfl,rfl⟩,by trivial⟩
noncomputable def zOf(r:Int):Bool:=(zHW r).choose
def zPz(r:Int):Om CC 242 [.t (.int .i32 r)] []=some (.val (.t (.bool (zOf r))),[]):=(zHW r).choose_spec.1
def zXV{s:List Nat}{pos:Nat}(h:pos<s.length):s.length - (pos+(Utf8.decode ⟨(s.map UInt8.ofNat).toArray⟩ pos).2)<s.length - pos:=by
 have:=Lib.decode_width_pos ⟨(s.map UInt8.ofNat).toArray⟩ pos (by show pos<(s.map UInt8.ofNat).toArray.size;simpa using h);omega
def zEi (f:Nat) (hb:yY Tryz.prog f=true) (hbp:∀x,CC.prim f x=none) (F:Int→Bool) (hf:∀r:Int,Om CC f [.t (.int .i32 r)] []=some (.val (.t (.bool (F r))),[])) (s:List Nat) (tr:Bool) :
  ∃x:Int,Om CC 285 [.t (.str s),.t (.fn f),.t (.bool tr)] []=some (.val (.t (.int .i64 x)),[])∧True:=by
 refine zH yAD rfl ?_
 (have F_:=c5 zN zD zNr zBl yC1;show W CC 0 21 (zA 285) _ ⟨[(0,_),(1,_),(2,_)],[]⟩ _)
 (have x0_:=@zIa.eq_1;(repeat' first|refine gA ?_|refine gT ?_ ?_<;>intro hv<;>try cases hv;done|fail);all_goals clear x0_)
 refine zW (α:=Nat) (fun i=>⟨[(1,.t (.fn f)),(2,.t (.bool tr)),(10,.box 0 0)],[.siter s i]⟩) (fun i=>s.length - i) (fun i=>True) 0 (by kernel_rfl) trivial ?_;intro i _
 by_cases hi':i<s.length
 ·have hlt:=zXV hi'
  (have x0_:=@zGz.eq_1;(repeat' first|refine gA ?_|refine gT ?_ ?_<;>intro hv<;>try cases hv;done|fail);all_goals clear x0_)
  all_goals first
   |((refine aM ?_);exact⟨_,⟨rfl,rfl⟩,trivial⟩)
   |exact zB _ hlt trivial (by kernel_rfl)
 (have x0_:=@zGz.eq_1;(repeat' first|refine gA ?_|refine gT ?_ ?_<;>intro hv<;>try cases hv;done|fail);all_goals clear x0_)
 (refine aM ?_)
 exact⟨_,⟨rfl,rfl⟩,trivial⟩
def zOh(s:List Nat):∃x:Int,Om CC 285 [.t (.str s),.t (.fn 243),.t (.bool true)] []=some (.val (.t (.int .i64 x)),[])∧True :=
 zEi _ yEy (fun x=>yA _ x (by decide)) zNS zPx s true
noncomputable def zS9(s:List Nat):Int:=(zOh s).choose
def zO7(s:List Nat):Om CC 285 [.t (.str s),.t (.fn 243),.t (.bool true)] []=some (.val (.t (.int .i64 (zS9 s))),[]):=(zOh s).choose_spec.1
def zIg(s:List Nat):∃x:Int,Om CC 263 [.t (.str s),.t (.fn 243)] []=some (.val (.t (.int .i64 x)),[])∧(True):=by
 refine zH zL2 rfl ?_
 (have F_:=c5 zN zD zBl zOn (c2 zOY @zO7);show W CC 0 8 (zA 263) _ ⟨[(0,_),(1,_)],[]⟩ _)
 (repeat' first|refine gA ?_|refine gT ?_ ?_<;>intro hv<;>try cases hv;done|fail)
 all_goals refine aM ?_<;>exact⟨_,⟨rfl,rfl⟩,by trivial⟩
noncomputable def zVe(s:List Nat):Int:=(zIg s).choose
def zPp(s:List Nat):Om CC 263 [.t (.str s),.t (.fn 243)] []=some (.val (.t (.int .i64 (zVe s))),[]):=(zIg s).choose_spec.1
def zHI(s:List Nat):∃x:Bool,Om CC 234 [.t (.str s),.t (.fn 243)] []=some (.val (.t (.bool x)),[])∧(True):=by
 refine zH zLX rfl ?_
 (have F_:=c5 zG zD zBl zN3 (c2 zOm @zPp);show W CC 0 9 (zA 234) _ ⟨[(0,_),(1,_)],[]⟩ _)
 (repeat' first|refine gA ?_|refine gT ?_ ?_<;>intro hv<;>try cases hv;done|fail)
 all_goals refine aM ?_<;>exact⟨_,⟨rfl,rfl⟩,by trivial⟩
noncomputable def zVx(s:List Nat):Bool:=(zHI s).choose
def zPn(s:List Nat):Om CC 234 [.t (.str s),.t (.fn 243)] []=some (.val (.t (.bool (zVx s))),[]):=(zHI s).choose_spec.1
def zOy(s:List Nat):∃x:Int,Om CC 285 [.t (.str s),.t (.fn 242),.t (.bool true)] []=some (.val (.t (.int .i64 x)),[])∧True :=
 zEi _ yFO (fun x=>yA _ x (by decide)) zOf zPz s true
noncomputable def zTt(s:List Nat):Int:=(zOy s).choose
def zPD(s:List Nat):Om CC 285 [.t (.str s),.t (.fn 242),.t (.bool true)] []=some (.val (.t (.int .i64 (zTt s))),[]):=(zOy s).choose_spec.1
def zIc(s:List Nat):∃x:Int,Om CC 263 [.t (.str s),.t (.fn 242)] []=some (.val (.t (.int .i64 x)),[])∧(True):=by
 refine zH zL2 rfl ?_
 (have F_:=c5 zN zD zBl zOn (c2 zOY @zPD);show W CC 0 8 (zA 263) _ ⟨[(0,_),(1,_)],[]⟩ _)
 (repeat' first|refine gA ?_|refine gT ?_ ?_<;>intro hv<;>try cases hv;done|fail)
 all_goals refine aM ?_<;>exact⟨_,⟨rfl,rfl⟩,by trivial⟩
noncomputable def zWp(s:List Nat):Int:=(zIc s).choose
def zPh(s:List Nat):Om CC 263 [.t (.str s),.t (.fn 242)] []=some (.val (.t (.int .i64 (zWp s))),[]):=(zIc s).choose_spec.1
def zHv(s:List Nat):∃x:Bool,Om CC 234 [.t (.str s),.t (.fn 242)] []=some (.val (.t (.bool x)),[])∧(True):=by
 refine zH zLX rfl ?_
 (have F_:=c5 zG zD zBl zN3 (c2 zOm @zPh);show W CC 0 9 (zA 234) _ ⟨[(0,_),(1,_)],[]⟩ _)
 (repeat' first|refine gA ?_|refine gT ?_ ?_<;>intro hv<;>try cases hv;done|fail)
 all_goals refine aM ?_<;>exact⟨_,⟨rfl,rfl⟩,by trivial⟩
noncomputable def zVg(s:List Nat):Bool:=(zHv s).choose
def zPa(s:List Nat):Om CC 234 [.t (.str s),.t (.fn 242)] []=some (.val (.t (.bool (zVg s))),[]):=(zHv s).choose_spec.1
def zK1(s:List Nat):∃x:Bool,Om CC 208 [.t (.str s)] []=some (.val (.t (.bool x)),[])∧True:=by
 refine zH zYR rfl ?_
 (have F_:=c5 zG zN zE zD (c5 zBl yFN zJ9 @zPn @uZ);show W CC 0 23 (zA 208) _ ⟨[(0,_)],[]⟩ _)
 cases s with
 |nil =>
  (have x0_:=@beqL.eq_1;have x1_:=@beqL.eq_2;have x2_:=@beqL.eq_3;(repeat' first|refine gA ?_|refine gT ?_ ?_<;>intro hv<;>try cases hv;done|fail);all_goals clear x0_ x1_ x2_)
  all_goals refine aM ?_<;>exact⟨_,⟨rfl,rfl⟩,trivial⟩
 |cons a l =>
  (have x0_:=@Ab.index.eq_1;have x1_:=@beqL.eq_1;have x2_:=@beqL.eq_2;have x3_:=@beqL.eq_3;(repeat' first|refine gA ?_|refine gT ?_ ?_<;>intro hv<;>try cases hv;done|fail);all_goals clear x0_ x1_ x2_ x3_)
  all_goals refine aM ?_<;>exact⟨_,⟨rfl,rfl⟩,trivial⟩
noncomputable def yA5(s:List Nat):Bool:=(zK1 s).choose
def zSH(s:List Nat):Om CC 208 [.t (.str s)] []=some (.val (.t (.bool (yA5 s))),[]):=(zK1 s).choose_spec.1
def zKI(s:List Nat):∃x:Bool,Om CC 207 [.t (.str s)] []=some (.val (.t (.bool x)),[])∧(True):=by
 refine zH zX4 rfl ?_
 (have F_:=c5 zG zN zD zBl (c3 yFs zJ9 @zPa);show W CC 0 11 (zA 207) _ ⟨[(0,_)],[]⟩ _)
 (repeat' first|refine gA ?_|refine gT ?_ ?_<;>intro hv<;>try cases hv;done|fail)
 all_goals refine aM ?_<;>exact⟨_,⟨rfl,rfl⟩,by trivial⟩
noncomputable def yEX(s:List Nat):Bool:=(zKI s).choose
def zSC(s:List Nat):Om CC 207 [.t (.str s)] []=some (.val (.t (.bool (yEX s))),[]):=(zKI s).choose_spec.1
def zNR(v:Val):∃x:Bool,Om CC 163 [.t (.agg [.int .u8 v.k,.int .i64 v.n,.str v.s])] []=some (.val (.t (.bool x)),[])∧(True):=by
 refine zH zYe rfl ?_
 (have F_:=c5 zF zE zD zC (c5 yGw yBd yBQ @zSC (c2 @zSH @zG1));show W CC 0 51 (zA 163) _ ⟨[(0,_)],[]⟩ _)
 (repeat' first|refine gA ?_|refine gT ?_ ?_<;>intro hv<;>try cases hv;done|fail)
 all_goals refine aM ?_<;>exact⟨_,⟨rfl,rfl⟩,by trivial⟩
noncomputable def MayV(v:Val):Bool:=(zNR v).choose
def zPN(v:Val):Om CC 163 [.t (.agg [.int .u8 v.k,.int .i64 v.n,.str v.s])] []=some (.val (.t (.bool (MayV v))),[]):=(zNR v).choose_spec.1
def zK9(v:Val)(w:Val):∃x:Int,Om CC 213 [.t (.agg [.int .u8 v.k,.int .i64 v.n,.str v.s]),.t (.agg [.int .u8 w.k,.int .i64 w.n,.str w.s])] []=some (.val (.t (.int .i64 x)),[])∧(True):=by
 refine zH zXx rfl ?_
 (have F_:=c5 zF zG zE zD (c5 zC zK yCj yGH (c5 zUv yBu zUt @zVQ (c3 @zMX @zS3 @yBk)));show W CC 0 22 (zA 213) _ ⟨[(0,_),(1,_)],[]⟩ _)
 (repeat' first|refine gA ?_|refine gT ?_ ?_<;>intro hv<;>try cases hv;done|fail)
 all_goals refine aM ?_<;>exact⟨_,⟨rfl,rfl⟩,by trivial⟩
noncomputable def yDe(v:Val)(w:Val):Int:=(zK9 v w).choose
def zUr(v:Val)(w:Val):Om CC 213 [.t (.agg [.int .u8 v.k,.int .i64 v.n,.str v.s]),.t (.agg [.int .u8 w.k,.int .i64 w.n,.str w.s])] []=some (.val (.t (.int .i64 (yDe v w))),[]):=(zK9 v w).choose_spec.1
def zH6(v:Val)(w:Val):∃x:Int×Bool,Om CC 166 [.t (.agg [.int .u8 v.k,.int .i64 v.n,.str v.s]),.t (.agg [.int .u8 w.k,.int .i64 w.n,.str w.s])] []=some (.val (.tup [.t (.int .i64 x.1),.t (.bool x.2)]),[])∧(True):=by
 refine zH zY5 rfl ?_
 (have F_:=c5 zF zG zN zE (c5 zD zC zK zAh (c5 yCJ zS8 yFY yET (c5 zUt yF4 @zJA @zUw (c3 @zTI @yAV @zUr))));show W CC 0 65 (zA 166) _ ⟨[(0,_),(1,_)],[]⟩ _)
 (repeat' first|refine gA ?_|refine gT ?_ ?_<;>intro hv<;>try cases hv;done|fail)
 all_goals refine aM ?_<;>exact⟨(_,_),⟨rfl,rfl⟩,by trivial⟩
noncomputable def zO3(v:Val)(w:Val):Int×Bool:=(zH6 v w).choose
def zJe(v:Val)(w:Val):Om CC 166 [.t (.agg [.int .u8 v.k,.int .i64 v.n,.str v.s]),.t (.agg [.int .u8 w.k,.int .i64 w.n,.str w.s])] []=some (.val (.tup [.t (.int .i64 (zO3 v w).1),.t (.bool (zO3 v w).2)]),[]):=(zH6 v w).choose_spec.1
end Go.Ab
