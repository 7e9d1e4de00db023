/- Lemmas. -/
import Derived.Test.YtdbfacakphncfaaGreatDoorG03
import Derived.Lib.RuneCount
set_option maxRecDepth 1000000
set_option maxHeartbeats 40000000
set_option linter.all false
namespace Go.Ab
open Go.Proofs
def zSW(d:Nat)(v w:Val):equal Tryz.prog (d+1+1) 23 (.agg v.c) (.agg w.c)=some (decide (v=w)):=by
 simp only[Val.c,yDV,zMk,zF5,zYp,zYn,zX8,nth,zUe _ _ _ _ _ _ zYc,zUe _ _ _ _ _ _ zYl,yGO _ _ _ _ _ zF0,yIu,Bool.and_true]
 congr 1
 obtain⟨k,n,s⟩:=v;obtain⟨k',n',s'⟩:=w;simp only[wV,Val.mk.injEq]
 by_cases h1:k=k'<;>by_cases h2:n=n'<;>by_cases h3:s=s'<;>simp [h1,h2,h3]
attribute [local irreducible] W RW RR
def zG5(n:Int):∃u:Int,Om CC 218 [.t (.int .i64 n)] []=some (.val (.t (.int .u64 u)),[])∧U64 u∧(R64 n→n≠0→u≠0):=by
 refine zJ zZg rfl ?_
 (have F_:=c3 zF jI yF4;show W CC 0 10 (zA 218) _ ⟨[(0,_)],[]⟩ _)
 (repeat' first|refine gA ?_|refine gT ?_ ?_<;>intro hv|fail)
 ·(refine aJ ?_)
  refine⟨_,⟨rfl,rfl⟩,zAT _,fun h h0=>?_⟩;simp only[zDK,R64] at *;omega
 (refine aJ ?_)
 refine⟨_,⟨rfl,rfl⟩,zAT _,fun h h0=>?_⟩;simp only[zDK,R64] at *;omega
noncomputable def Size(n:Int):Int:=(zG5 n).choose
def zHk(n:Int):Om CC 218 [.t (.int .i64 n)] []=some (.val (.t (.int .u64 (Size n))),[]):=(zG5 n).choose_spec.1
def yD0(n:Int):U64 (Size n):=(zG5 n).choose_spec.2.1
def zQv{n:Int}(h:R64 n)(h0:n≠0):Size n≠0:=(zG5 n).choose_spec.2.2 h h0
def zHc(neg:Bool)(hi:Int)(lo:Int):∃x:Int×Int,Om CC 219 [.t (.bool neg),.t (.int .u64 hi),.t (.int .u64 lo)] []=some (.val (.tup [.t (.int .i64 x.1),.t (.int .i64 x.2)]),[])∧R64 x.1:=by
 refine zJ zY3 rfl ?_
 (have F_:=c3 zF zP (c2 jI yEI);show W CC 0 30 (zA 219) _ ⟨[(0,_),(1,_),(2,_)],[]⟩ _)
 (repeat' first|refine gA ?_|refine gT ?_ ?_<;>intro hv|fail)
 all_goals refine aJ ?_<;>exact⟨(_,_),⟨rfl,rfl⟩,by first|exact zG6 _|(simp only[R64];decide)⟩
noncomputable def zPm(neg:Bool)(hi:Int)(lo:Int):Int×Int:=(zHc neg hi lo).choose
def zFL(neg:Bool)(hi:Int)(lo:Int):Om CC 219 [.t (.bool neg),.t (.int .u64 hi),.t (.int .u64 lo)] []=some (.val (.tup [.t (.int .i64 (zPm neg hi lo).1),.t (.int .i64 (zPm neg hi lo).2)]),[]):=(zHc neg hi lo).choose_spec.1
def zDH(neg:Bool)(hi:Int)(lo:Int):R64 (zPm neg hi lo).1:=(zHc neg hi lo).choose_spec.2
def zKA(a:Int)(b:Int):∃x:Int×Int,Om CC 175 [.t (.int .i64 a),.t (.int .i64 b)] []=some (.val (.tup [.t (.int .i64 x.1),.t (.int .i64 x.2)]),[])∧R64 x.1:=by
 refine zJ zZG rfl ?_
 (have F_:=c3 zF zP yD5;show W CC 0 23 (zA 175) _ ⟨[(0,_),(1,_)],[]⟩ _)
 (repeat' first|refine gA ?_|refine gT ?_ ?_<;>intro hv|fail)
 all_goals refine aJ ?_<;>exact⟨(_,_),⟨rfl,rfl⟩,by first|exact zG6 _|(simp only[R64];decide)⟩
noncomputable def NAdd(a:Int)(b:Int):Int×Int:=(zKA a b).choose
def zQB(a:Int)(b:Int):Om CC 175 [.t (.int .i64 a),.t (.int .i64 b)] []=some (.val (.tup [.t (.int .i64 (NAdd a b).1),.t (.int .i64 (NAdd a b).2)]),[]):=(zKA a b).choose_spec.1
def zTV(a:Int)(b:Int):R64 (NAdd a b).1:=(zKA a b).choose_spec.2
def zKo(a:Int)(b:Int):∃x:Int×Int,Om CC 176 [.t (.int .i64 a),.t (.int .i64 b)] []=some (.val (.tup [.t (.int .i64 x.1),.t (.int .i64 x.2)]),[])∧R64 x.1:=by
 refine zJ zY1 rfl ?_
 (have F_:=c3 zF zP yEi;show W CC 0 23 (zA 176) _ ⟨[(0,_),(1,_)],[]⟩ _)
 (repeat' first|refine gA ?_|refine gT ?_ ?_<;>intro hv|fail)
 all_goals refine aJ ?_<;>exact⟨(_,_),⟨rfl,rfl⟩,by first|exact zG6 _|(simp only[R64];decide)⟩
noncomputable def NSub(a:Int)(b:Int):Int×Int:=(zKo a b).choose
def zQz(a:Int)(b:Int):Om CC 176 [.t (.int .i64 a),.t (.int .i64 b)] []=some (.val (.tup [.t (.int .i64 (NSub a b).1),.t (.int .i64 (NSub a b).2)]),[]):=(zKo a b).choose_spec.1
def zSY(a:Int)(b:Int):R64 (NSub a b).1:=(zKo a b).choose_spec.2
def zIq(a b:Int):∃x:Int×Int,Om CC 217 [.t (.int .u64 a),.t (.int .u64 b)] []=some (.val (.tup [.t (.int .u64 x.1),.t (.int .u64 x.2)]),[])∧U64 x.1∧U64 x.2:=by
 refine zJ zZA rfl ?_
 (have F_:=c2 jI yFo;show W CC 0 51 (zA 217) _ ⟨[(0,_),(1,_)],[]⟩ _)
 skip
 (refine gA ?_)
 all_goals refine aJ ?_<;>exact⟨(_,_),⟨rfl,rfl⟩,zAT _,zAT _⟩
noncomputable def Mul64(a b:Int):Int×Int:=(zIq a b).choose
def zFE(a b:Int):Om CC 217 [.t (.int .u64 a),.t (.int .u64 b)] []=some (.val (.tup [.t (.int .u64 (Mul64 a b).1),.t (.int .u64 (Mul64 a b).2)]),[]):=(zIq a b).choose_spec.1
def zZP(a b:Int):U64 (Mul64 a b).1∧U64 (Mul64 a b).2:=(zIq a b).choose_spec.2
def zKc(a:Int)(b:Int):∃x:Int×Int,Om CC 177 [.t (.int .i64 a),.t (.int .i64 b)] []=some (.val (.tup [.t (.int .i64 x.1),.t (.int .i64 x.2)]),[])∧R64 x.1:=by
 refine zJ zY0 rfl ?_
 (have F_:=c5 zF zP jI yDf (c5 zMi zK8 zIL @zHk (c2 @zFL @zFE));show W CC 0 26 (zA 177) _ ⟨[(0,_),(1,_)],[]⟩ _)
 (refine gA ?_)
 all_goals refine aJ ?_<;>exact⟨(_,_),⟨rfl,rfl⟩,by first|exact zG6 _|exact zDH _ _ _|(simp only[R64];decide)⟩
noncomputable def NMul(a:Int)(b:Int):Int×Int:=(zKc a b).choose
def zQo(a:Int)(b:Int):Om CC 177 [.t (.int .i64 a),.t (.int .i64 b)] []=some (.val (.tup [.t (.int .i64 (NMul a b).1),.t (.int .i64 (NMul a b).2)]),[]):=(zKc a b).choose_spec.1
def zVX(a:Int)(b:Int):R64 (NMul a b).1:=(zKc a b).choose_spec.2
def zKy(a b:Int)(hb:R64 b):∃x:Int×Int,Om CC 179 [.t (.int .i64 a),.t (.int .i64 b)] []=some (.val (.tup [.t (.int .i64 x.1),.t (.int .i64 x.2)]),[])∧R64 x.1:=by
 refine zJ yAD rfl ?_
 (have F_:=c5 zF zP jI yEj (c5 zMi zK8 zIL @zHk (c2 @zFL @zFE));show W CC 0 21 (zA 179) _ ⟨[(0,_),(1,_)],[]⟩ _)
 by_cases h0:b=0
 ·subst h0
  (refine gA ?_)
  all_goals refine aJ ?_<;>exact⟨(_,_),⟨rfl,rfl⟩,by first|exact zDH _ _ _|(simp only[R64];decide)⟩
 have hn:=zQv hb h0;have hq:(b==0)=false:=by simpa using h0
 have h0_:=fun P t k a=>zI7 P t k a _ hn
 (refine gA ?_)
 all_goals refine aJ ?_<;>exact⟨(_,_),⟨rfl,rfl⟩,by first|exact zDH _ _ _|(simp only[R64];decide)⟩
def zKf(a b:Int)(hb:R64 b):∃x:Int×Int,Om CC 182 [.t (.int .i64 a),.t (.int .i64 b)] []=some (.val (.tup [.t (.int .i64 x.1),.t (.int .i64 x.2)]),[])∧R64 x.1:=by
 refine zJ yBm rfl ?_
 (have F_:=c5 zF zP jI yFD (c5 zMi zK8 zIL @zHk (c2 @zFL @zFE));show W CC 0 18 (zA 182) _ ⟨[(0,_),(1,_)],[]⟩ _)
 by_cases h0:b=0
 ·subst h0
  (refine gA ?_)
  all_goals refine aJ ?_<;>exact⟨(_,_),⟨rfl,rfl⟩,by first|exact zDH _ _ _|(simp only[R64];decide)⟩
 have hn:=zQv hb h0;have hq:(b==0)=false:=by simpa using h0
 have h0_:=fun P t k a=>zQP P t k a _ hn
 (refine gA ?_)
 all_goals refine aJ ?_<;>exact⟨(_,_),⟨rfl,rfl⟩,by first|exact zDH _ _ _|(simp only[R64];decide)⟩
open Classical in
noncomputable def NQuo(a b:Int):Int×Int:=if h:R64 b then (zKy a b h).choose else (0,0)
def zZ6(a b:Int)(h:R64 b):Om CC 179 [.t (.int .i64 a),.t (.int .i64 b)] []=some (.val (.tup [.t (.int .i64 (NQuo a b).1),.t (.int .i64 (NQuo a b).2)]),[]):=by
 unfold NQuo;rw[dif_pos h];exact(zKy a b h).choose_spec.1
def yHd(a b:Int):R64 (NQuo a b).1:=by
 unfold NQuo;split
 ·rename_i h;exact(zKy a b h).choose_spec.2
 simp [R64]
open Classical in
noncomputable def NMod(a b:Int):Int×Int:=if h:R64 b then (zKf a b h).choose else (0,0)
def zYE(a b:Int)(h:R64 b):Om CC 182 [.t (.int .i64 a),.t (.int .i64 b)] []=some (.val (.tup [.t (.int .i64 (NMod a b).1),.t (.int .i64 (NMod a b).2)]),[]):=by
 unfold NMod;rw[dif_pos h];exact(zKf a b h).choose_spec.1
def yBO(a b:Int):R64 (NMod a b).1:=by
 unfold NMod;split
 ·rename_i h;exact(zKf a b h).choose_spec.2
 simp [R64]
def zG4(a:Int):∃x:Int×Int,Om CC 281 [.t (.int .i64 a)] []=some (.val (.tup [.t (.int .i64 x.1),.t (.int .i64 x.2)]),[])∧R64 x.1:=by
 refine zJ yBk rfl ?_
 (have F_:=c3 zF yEa (c2 zS1 @zQo);show W CC 0 8 (zA 281) _ ⟨[(0,_)],[]⟩ _)
 (refine gA ?_)
 all_goals refine aJ ?_<;>exact⟨(_,_),⟨rfl,rfl⟩,zVX _ _⟩
noncomputable def zO7(a:Int):Int×Int:=(zG4 a).choose
def zVz(a:Int):Om CC 281 [.t (.int .i64 a)] []=some (.val (.tup [.t (.int .i64 (zO7 a).1),.t (.int .i64 (zO7 a).2)]),[]):=(zG4 a).choose_spec.1
def zWJ(a:Int):R64 (zO7 a).1:=(zG4 a).choose_spec.2
def zFq:List Nat:=[0,1,2,2,3,3,3,3,4,4,4,4,4,4,4,4,5,5,5,5,5,5,5,5,5,5,5,5,5,5,5,5,6,6,6,6,6,6,6,6,6,6,6,6,6,6,6,6,6,6,6,6,6,6,6,6,6,6,6,6,6,6,6,6,7,7,7,7,7,7,7,7,7,7,7,7,7,7,7,7,7,7,7,7,7,7,7,7,7,7,7,7,7,7,7,7,7,7,7,7,7,7,7,7,7,7,7,7,7,7,7,7,7,7,7,7,7,7,7,7,7,7,7,7,7,7,7,7,8,8,8,8,8,8,8,8,8,8,8,8,8,8,8,8,8,8,8,8,8,8,8,8,8,8,8,8,8,8,8,8,8,8,8,8,8,8,8,8,8,8,8,8,8,8,8,8,8,8,8,8,8,8,8,8,8,8,8,8,8,8,8,8,8,8,8,8,8,8,8,8,8,8,8,8,8,8,8,8,8,8,8,8,8,8,8,8,8,8,8,8,8,8,8,8,8,8,8,8,8,8,8,8,8,8,8,8,8,8,8,8,8,8,8,8,8,8,8,8,8,8,8,8,8,8,8,8]
def zMf:((List.range 256).all fun b=>match nth zFq b with
  |some m=>decide (m≤8)&&decide (b<2 ^ m)&&(b==0||decide (2 ^ m≤2 * b))
  |none=>false)=true:=by kernel_rfl
def yBo{S:List Nat}{z:Int}(hS:S=zFq)(h0:0≤z)(h1:z<256):index Tryz.prog 9 (.t (.str S)) z=some (.t (.int .u8 (((nth zFq z.toNat).getD 0:Nat):Int))):=by
 subst hS;obtain⟨b,rfl⟩:=Int.eq_ofNat_of_zero_le h0;have h:=List.all_eq_true.1 zMf b (List.mem_range.2 (by omega));unfold index;rw[zF0];simp only[idx];cases hn:nth zFq b with
 |none=>rw[hn] at h;cases h
 |some m=>simp [hn,idx]
def zY9{z:Int}(h0:0≤z)(h1:z<256):∃m:Nat,(nth zFq z.toNat).getD 0=m∧m≤8∧z<((2 ^ m:Nat):Int)∧(z≠0→((2 ^ m:Nat):Int)≤2 * z):=by
 obtain⟨b,rfl⟩:=Int.eq_ofNat_of_zero_le h0;have h:=List.all_eq_true.1 zMf b (List.mem_range.2 (by omega));cases hn:nth zFq b with
 |none=>rw[hn] at h;cases h
 |some m =>
  rw[hn] at h;simp only[Bool.and_eq_true,decide_eq_true_eq,Bool.or_eq_true,beq_iff_eq] at h;refine⟨m,by simp [hn],h.1.1,by omega,fun hb=>?_⟩;rcases h.2 with h2|h2
  ·omega
  omega
def zQC(x:Int):0≤IntKind.u8.wrap x∧IntKind.u8.wrap x<256:=by
 simp only[IntKind.wrap,IntKind.signed,IntKind.bits,Bool.false_and];simp;omega
def yHH{x:Int}(h0:0≤x)(h1:x<256):IntKind.u8.wrap x=x:=by
 simp only[IntKind.wrap,IntKind.signed,IntKind.bits,Bool.false_and];simp;omega
def zCP (x z c:Int) (K:Nat) (hc:c=K) (hK:K≤56) (hz:z=x / ((2 ^ K:Nat):Int)) (z0:0≤z) (z1:z<256) (hL:0≤x) (hC:x≠0→z≠0) :
  ∃a:Int,(Out.val (AV.t (.int .i64 (IntKind.i64.wrap (c+IntKind.i64.wrap (((nth zFq z.toNat).getD 0:Nat):Int)))))=Out.val (.t (.int .i64 a))∧([]:Heap)=[]) ∧
   ∃m:Nat,a=m∧m≤64∧x<((2 ^ m:Nat):Int)∧(x≠0→((2 ^ m:Nat):Int)≤2 * x):=by
 subst hc;obtain⟨m,hm,h8,hM,hD⟩:=zY9 z0 z1;rw[hm,wrap64 (x:=(m:Int)) (by omega) (by omega),wrap64 (by omega) (by omega)];refine⟨((K+m:Nat):Int),⟨by congr 4,rfl⟩,K+m,rfl,by omega,?_,fun h=>?_⟩
 ·rw[Nat.pow_add];have hp:(0:Int)<((2 ^ K:Nat):Int):=by
   have:=Nat.pow_pos (n:=K) (show 0<2 by decide);omega
  have h1:x<((2 ^ K:Nat):Int) * (z+1):=by rw[hz,Int.mul_add,Int.mul_one];exact Int.lt_mul_ediv_self_add hp
  have h2:((2 ^ K:Nat):Int) * (z+1)≤((2 ^ K:Nat):Int) * ((2 ^ m:Nat):Int):=Int.mul_le_mul_of_nonneg_left (by omega) (by omega)
  push_cast at *
  omega
 rw[Nat.pow_add];have hp:(0:Int)≤((2 ^ K:Nat):Int):=Int.natCast_nonneg _;have h1:((2 ^ K:Nat):Int) * z≤x:=by rw[hz];exact Int.mul_ediv_self_le (by have:=Nat.pow_pos (n:=K) (show 0<2 by decide);omega)
 have h2:((2 ^ K:Nat):Int) * ((2 ^ m:Nat):Int)≤((2 ^ K:Nat):Int) * (2 * z):=Int.mul_le_mul_of_nonneg_left (hD (hC h)) hp;have h3:((2 ^ K:Nat):Int) * (2 * z)=2 * (((2 ^ K:Nat):Int) * z):=by rw[Int.mul_left_comm]
 push_cast at *
 omega
def zU6(x:Int)(hx:U64 x):∃n:Int,Om CC 292 [.t (.int .u64 x)] []=some (.val (.t (.int .i64 n)),[])∧∃m:Nat,n=m∧m≤64∧x<((2 ^ m:Nat):Int)∧(x≠0→((2 ^ m:Nat):Int)≤2 * x):=by
 refine zJ yBt rfl ?_
 (have F_:=c5 zG zE zC jI yBR;show W CC 0 25 (zA 292) _ ⟨[(0,_)],[]⟩ _)
 have e1:IntKind.i64.wrap (32+16)=48:=by decide
 have e2:IntKind.i64.wrap (0+16)=16:=by decide
 have e3:IntKind.i64.wrap (48+8)=56:=by decide
 have e4:IntKind.i64.wrap (16+8)=24:=by decide
 have e5:IntKind.i64.wrap (32+8)=40:=by decide
 have e6:IntKind.i64.wrap (0+8)=8:=by decide
 unfold U64 at hx
 (repeat' first|refine gA ?_|refine gT ?_ ?_<;>intro hv|fail)
 all_goals simp only[decide_eq_true_eq,decide_eq_false_iff_not] at *
 all_goals (
  rw[yBo]
  rotate_left
  ·kernel_rfl
  ·exact(zQC _).1
  ·exact(zQC _).2
  (refine gA ?_)
  (refine aJ ?_)
  rw[yHH (by omega) (by omega)]
  first
  |exact zCP x _ _ 56 (by decide) (by decide) (by omega) (by omega) (by omega) hx.1 (by omega)
  |exact zCP x _ _ 48 (by decide) (by decide) (by omega) (by omega) (by omega) hx.1 (by omega)
  |exact zCP x _ _ 40 (by decide) (by decide) (by omega) (by omega) (by omega) hx.1 (by omega)
  |exact zCP x _ _ 32 (by decide) (by decide) (by omega) (by omega) (by omega) hx.1 (by omega)
  |exact zCP x _ _ 24 (by decide) (by decide) (by omega) (by omega) (by omega) hx.1 (by omega)
  |exact zCP x _ _ 16 (by decide) (by decide) (by omega) (by omega) (by omega) hx.1 (by omega)
  |exact zCP x _ _ 8 (by decide) (by decide) (by omega) (by omega) (by omega) hx.1 (by omega)
  |exact zCP x _ _ 0 (by decide) (by decide) (by omega) (by omega) (by omega) hx.1 (by omega))
def zXE(x:Int)(hx:U64 x):∃m:Nat,Om CC 292 [.t (.int .u64 x)] []=some (.val (.t (.int .i64 (m:Int))),[])∧m≤64∧x<((2 ^ m:Nat):Int)∧(x≠0→((2 ^ m:Nat):Int)≤2 * x):=by
 obtain⟨n,h1,m,rfl,h2⟩:=zU6 x hx;exact⟨m,h1,h2⟩
def zWD(x:Int)(hx:U64 x):∃s:Nat,Om CC 282 [.t (.int .u64 x)] []=some (.val (.t (.int .i64 (s:Int))),[])∧s≤64 ∧
  (x≠0→9223372036854775808≤x * ((2 ^ s:Nat):Int)∧x * ((2 ^ s:Nat):Int)<18446744073709551616):=by
 obtain⟨m,hm,h1,h2,h3⟩:=zXE x hx;refine zJ zZR rfl ?_
 (have F_:=c3 zG jI (c2 yGB yE2);show W CC 0 6 (zA 282) _ ⟨[(0,_)],[]⟩ _)
 have hw:IntKind.i64.wrap (64 - (m:Int))=((64 - m:Nat):Int):=by rw[wrap64]<;>omega
 (refine gA ?_)
 (refine aJ ?_)
 refine⟨64 - m,⟨rfl,rfl⟩,by omega,fun h0=>?_⟩;have hp:((2 ^ m:Nat):Int) * ((2 ^ (64 - m):Nat):Int)=18446744073709551616:=by
  have:2 ^ m * 2 ^ (64 - m)=18446744073709551616:=by rw[← Nat.pow_add,show m+(64 - m)=64 by omega]
  rw[← Int.natCast_mul,this];rfl
 have hq:(0:Int)<((2 ^ (64 - m):Nat):Int):=by
  have:=Nat.pow_pos (n:=64 - m) (show 0<2 by decide);omega
 have h4:=Int.mul_le_mul_of_nonneg_right (h3 h0) (Int.le_of_lt hq);have h5:=Int.mul_lt_mul_of_pos_right h2 hq;rw[hp] at h4 h5;rw[Int.mul_assoc] at h4;omega
def zI2(r:Int):Nat:=if r<4294967296 then (4294967296 - r).toNat else 4294967297
def zJT{r y:Int}(hr:0≤r)(hy:1≤y)(hk:y<4294967296)(h:IntKind.u64.wrap (r+y)<4294967296)(hu:r<18446744073709551616):zI2 (IntKind.u64.wrap (r+y))<zI2 r:=by
 rw[zDK] at *;unfold zI2;rw[if_pos h];split<;>omega
set_option maxHeartbeats 8000000
def zNg(hi lo y:Int)(h1:U64 hi)(h2:U64 lo)(h3:U64 y)(h4:hi<y):∃x:Int×Int,Om CC 252 [.t (.int .u64 hi),.t (.int .u64 lo),.t (.int .u64 y)] []=some (.val (.tup [.t (.int .u64 x.1),.t (.int .u64 x.2)]),[])∧True:=by
 refine zJ zZD rfl ?_
 (have F_:=c5 zG zCd jI yCX (c2 yB8 yBB);show W CC 0 135 (zA 252) _ ⟨[(0,_),(1,_),(2,_)],[]⟩ _)
 obtain⟨s,hs,hN,ho⟩:=zWD y h3;have ha:y≠0:=by unfold U64 at *;omega
 have hO:(y==0)=false:=by simpa using ha
 have hP:decide (y≤hi)=false:=by simpa using h4
 have hQ:IntKind.u64.wrap (s:Int)=s:=by rw[zDK];omega
 have ht:(0:Int)≤s:=by omega
 have hE:0≤IntKind.u64.wrap (64 - (s:Int)):=(zAT _).1;have hY:IntKind.u64.wrap (y * 2 ^ min ((s:Int)).toNat IntKind.u64.bits)=y * ((2 ^ s:Nat):Int):=by
  have:min ((s:Int)).toNat IntKind.u64.bits=s:=by simp [IntKind.bits];omega
  rw[this,zDK];have:=ho ha
  push_cast at *
  omega
 obtain⟨hF,hk⟩:=ho ha;generalize y * ((2 ^ s:Nat):Int)=Y at hY hF hk;have hA:Y / 4294967296≠0:=by omega
 cases hz:(hi==0) with
 |true =>
  have h0_:=fun P t k a=>zI7 P t k a _ ha
  have h1_:=fun P t k a=>zQP P t k a _ ha
  (refine gA ?_)
  all_goals refine aJ ?_<;>exact⟨(_,_),⟨rfl,rfl⟩,trivial⟩
 |false =>
  have h0_:=fun P t k k2 a=>yBq P t k k2 a _ ht
  have h1_:=fun P t k k2 a=>zMG P t k k2 a _ hE
  have h2_:=fun P t k a=>zI7 P t k a _ hA
  simp only[Int.toNat_natCast] at hY
  (refine gA ?_)
  generalize zC9 .and .u64 Y 4294967295=A;generalize IntKind.u64.wrap (lo * 2 ^ min s IntKind.u64.bits)=L;generalize zC9 .and .u64 L 4294967295=D;generalize hB:zC9 .or .u64 _ _=B;have hG:U64 (IntKind.u64.wrap (B - IntKind.u64.wrap (IntKind.u64.wrap (B.tdiv (Y / 4294967296)) * (Y / 4294967296)))):=zAT _;generalize IntKind.u64.wrap (B - IntKind.u64.wrap (IntKind.u64.wrap (B.tdiv (Y / 4294967296)) * (Y / 4294967296)))=r0 at *;generalize IntKind.u64.wrap (B.tdiv (Y / 4294967296))=q0 at *;refine W.mono (Q:=fun e st=>e=.exit 0∧∃q:Int,get st.T 2=.t (.int .u64 Y)∧get st.T 8=.t (.int .u64 s)∧get st.T 9=.t (.int .u64 (Y / 4294967296))∧get st.T 10=.t (.int .u64 A)∧get st.T 11=.t (.int .u64 B) ∧
   get st.T 13=.t (.int .u64 (L / 4294967296))∧get st.T 14=.t (.int .u64 D)∧get st.T 15=.t (.int .u64 q)∧st.h=[]∧Ab.get st.T 135=.unk) ?_ ?_
  ·refine yE (α:=Int×Int) (fun a=>⟨[(2,.t (.int .u64 Y)),(8,.t (.int .u64 s)),(9,.t (.int .u64 (Y / 4294967296))),(10,.t (.int .u64 A)),(11,.t (.int .u64 B)),(13,.t (.int .u64 (L / 4294967296))),(14,.t (.int .u64 D)),(15,.t (.int .u64 a.1)),(16,.t (.int .u64 a.2))],[]⟩)
    (fun a=>zI2 a.2) (fun a=>U64 a.2) (q0,r0) (by kernel_rfl) hG ?_
   rintro⟨q,r⟩ hr
   try dsimp only at hr
   (repeat' first|refine gA ?_|refine gT ?_ ?_<;>intro hv|fail)
   all_goals first
    |exact⟨rfl,_,rfl,rfl,rfl,rfl,rfl,rfl,rfl,rfl,rfl,rfl⟩
    |exact zD (IntKind.u64.wrap (q - 1),IntKind.u64.wrap (r+Y / 4294967296)) (zJT hr.1 (by omega) (by omega) (by simpa using hv) hr.2) (zAT _) (by kernel_rfl)
  rintro e ⟨T,h⟩ ⟨rfl,q1,g2,g8,g9,g10,g11,g13,g14,g15,gh,gD⟩;dsimp only at g2 g8 g9 g10 g11 g13 g14 g15 gh gD;subst gh;have h0_:=fun P t k a=>zI7 P t k a _ hA
  (refine gA ?_)
  generalize hU:IntKind.u64.wrap (IntKind.u64.wrap (IntKind.u64.wrap (B * 4294967296)+L / 4294967296) - IntKind.u64.wrap (q1 * Y))=U;have hH:U64 (IntKind.u64.wrap (U - IntKind.u64.wrap (IntKind.u64.wrap (U.tdiv (Y / 4294967296)) * (Y / 4294967296)))):=zAT _;generalize IntKind.u64.wrap (U - IntKind.u64.wrap (IntKind.u64.wrap (U.tdiv (Y / 4294967296)) * (Y / 4294967296)))=r1 at *;generalize IntKind.u64.wrap (U.tdiv (Y / 4294967296))=q2 at *;refine W.mono (Q:=fun e st=>e=.exit 2∧∃q:Int,get st.T 2=.t (.int .u64 Y)∧get st.T 8=.t (.int .u64 s)∧get st.T 14=.t (.int .u64 D)∧get st.T 15=.t (.int .u64 q1)∧get st.T 17=.t (.int .u64 U)∧get st.T 18=.t (.int .u64 q)∧st.h=[]∧Ab.get st.T 135=.unk) ?_ ?_
  ·refine yE (α:=Int×Int) (fun a=>⟨[(2,.t (.int .u64 Y)),(8,.t (.int .u64 s)),(9,.t (.int .u64 (Y / 4294967296))),(10,.t (.int .u64 A)),(14,.t (.int .u64 D)),(15,.t (.int .u64 q1)),(16,.t (.int .u64 a.2)),(17,.t (.int .u64 U)),(18,.t (.int .u64 a.1))],[]⟩)
    (fun a=>zI2 a.2) (fun a=>U64 a.2) (q2,r1) (by(have X_:=c5 @g2 @g8 @g9 @g10 (c3 @g14 @g15 @gD);exact aTdX)) hH ?_
   rintro⟨q,r⟩ hr
   try dsimp only at hr
   (repeat' first|refine gA ?_|refine gT ?_ ?_<;>intro hv|fail)
   all_goals first
    |exact⟨rfl,_,rfl,rfl,rfl,rfl,rfl,rfl,rfl,rfl⟩
    |exact zD (IntKind.u64.wrap (q - 1),IntKind.u64.wrap (r+Y / 4294967296)) (zJT hr.1 (by omega) (by omega) (by simpa using hv) hr.2) (zAT _) (by kernel_rfl)
  rintro e ⟨T',h⟩ ⟨rfl,q3,f2,f8,f14,f15,f17,f18,fh,fD⟩;dsimp only at f2 f8 f14 f15 f17 f18 fh fD;subst fh;clear g2 g8 g9 g10 g11 g13 g14 g15;have h0_:=fun P t k k2 a=>zMG P t k k2 a _ ht
  (refine gA ?_)
  refine aJ ?_ (h0:=by(show yK 135 _=some [];simp only[yK,Ab.get,Nat.beq,fD]));exact⟨(_,_),⟨rfl,rfl⟩,trivial⟩
open Classical in
noncomputable def Div64(hi lo y:Int):Int×Int:=if h:U64 hi∧U64 lo∧U64 y∧hi<y then (zNg hi lo y h.1 h.2.1 h.2.2.1 h.2.2.2).choose else (0,0)
def zWc(hi lo y:Int)(h:U64 hi∧U64 lo∧U64 y∧hi<y):Om CC 252 [.t (.int .u64 hi),.t (.int .u64 lo),.t (.int .u64 y)] []=some (.val (.tup [.t (.int .u64 (Div64 hi lo y).1),.t (.int .u64 (Div64 hi lo y).2)]),[]):=by
 unfold Div64;rw[dif_pos h];exact(zNg hi lo y h.1 h.2.1 h.2.2.1 h.2.2.2).choose_spec.1
def zIH(hi lo a b d:Int):∃x:Int×Int,Om CC 251 [.t (.int .u64 hi),.t (.int .u64 lo),.box 0 0,.box 1 0,.box 2 0] [.box [.t (.int .i64 a)],.box [.t (.int .i64 b)],.box [.t (.int .i64 d)]] =
  some (.val (.tup [.t (.int .i64 x.1),.t (.int .i64 x.2)]),[.box [.t (.int .i64 a)],.box [.t (.int .i64 b)],.box [.t (.int .i64 d)]])∧R64 x.1:=by
 refine jJ yBf rfl ?_
 (have F_:=c5 zF zP jI yF8 (c2 zK8 @zFL);show W CC 3 22 (zA 251) _ ⟨[(0,_),(1,_),(2,_),(3,_),(4,_)],[_,_,_]⟩ _)
 (refine gA ?_)
 (refine aJ ?_)
 exact⟨(_,_),⟨rfl,rfl⟩,zDH _ _ _⟩
noncomputable def zSm(hi lo a b d:Int):Int×Int:=(zIH hi lo a b d).choose
def zWb(hi lo a b d:Int):Om CC 251 [.t (.int .u64 hi),.t (.int .u64 lo),.box 0 0,.box 1 0,.box 2 0] [.box [.t (.int .i64 a)],.box [.t (.int .i64 b)],.box [.t (.int .i64 d)]] =
  some (.val (.tup [.t (.int .i64 (zSm hi lo a b d).1),.t (.int .i64 (zSm hi lo a b d).2)]),[.box [.t (.int .i64 a)],.box [.t (.int .i64 b)],.box [.t (.int .i64 d)]]):=(zIH hi lo a b d).choose_spec.1
def zQ8(hi lo a b d:Int):R64 (zSm hi lo a b d).1:=(zIH hi lo a b d).choose_spec.2
def zKS(a b d:Int):∃x:Int×Int,Om CC 220 [.t (.int .i64 a),.t (.int .i64 b),.t (.int .i64 d)] []=some (.val (.tup [.t (.int .i64 x.1),.t (.int .i64 x.2)]),[])∧R64 x.1:=by
 refine zJ yBi rfl ?_
 (have F_:=c5 zF jI yBD zMi (c5 zIL yGR yDL @zHk (c2 @zFE @zWb));show W CC 0 61 (zA 220) _ ⟨[(0,_),(1,_),(2,_)],[]⟩ _)
 have hu:=zZP (Size a) (Size b);have hd:=yD0 d
 by_cases hh:(Mul64 (Size a) (Size b)).1<Size d
 ·have hI:decide ((Mul64 (Size a) (Size b)).1 ≥ Size d)=false:=by simpa using hh
  have hJ:=zWc (Mul64 (Size a) (Size b)).1 (Mul64 (Size a) (Size b)).2 (Size d) ⟨hu.1,hu.2,hd,hh⟩;clear hu hd
  (repeat' first|refine gA ?_|refine gT ?_ ?_<;>intro hv|fail)
  all_goals refine aJ ?_<;>exact⟨(_,_),⟨rfl,rfl⟩,by first|exact zQ8 _ _ _ _ _|(simp only[R64];decide)⟩
 have hI:decide ((Mul64 (Size a) (Size b)).1 ≥ Size d)=true:=by simpa using hh
 clear hu hd
 (refine gA ?_)
 all_goals refine aJ ?_<;>exact⟨(_,_),⟨rfl,rfl⟩,by first|exact zQ8 _ _ _ _ _|(simp only[R64];decide)⟩
noncomputable def Over(a b d:Int):Int×Int:=(zKS a b d).choose
def zQX(a b d:Int):Om CC 220 [.t (.int .i64 a),.t (.int .i64 b),.t (.int .i64 d)] []=some (.val (.tup [.t (.int .i64 (Over a b d).1),.t (.int .i64 (Over a b d).2)]),[]):=(zKS a b d).choose_spec.1
def zVs(a b d:Int):R64 (Over a b d).1:=(zKS a b d).choose_spec.2
def zGj(a b:Int):∃x:Int×Int,Om CC 178 [.t (.int .i64 a),.t (.int .i64 b)] []=some (.val (.tup [.t (.int .i64 x.1),.t (.int .i64 x.2)]),[])∧R64 x.1:=by
 refine zJ zZ7 rfl ?_
 (have F_:=c3 zF yCU (c2 zUE @zQX);show W CC 0 11 (zA 178) _ ⟨[(0,_),(1,_)],[]⟩ _)
 (refine gA ?_)
 all_goals refine aJ ?_<;>exact⟨(_,_),⟨rfl,rfl⟩,by first|exact zVs _ _ _|(simp only[R64];decide)⟩
noncomputable def zJC(a b:Int):Int×Int:=(zGj a b).choose
def zRR(a b:Int):Om CC 178 [.t (.int .i64 a),.t (.int .i64 b)] []=some (.val (.tup [.t (.int .i64 (zJC a b).1),.t (.int .i64 (zJC a b).2)]),[]):=(zGj a b).choose_spec.1
def zUX(a b:Int):R64 (zJC a b).1:=(zGj a b).choose_spec.2
def zGt(a b:Int):∃x:Int×Int,Om CC 180 [.t (.int .i64 a),.t (.int .i64 b)] []=some (.val (.tup [.t (.int .i64 x.1),.t (.int .i64 x.2)]),[])∧R64 x.1:=by
 refine zJ zZm rfl ?_
 (have F_:=c3 zF yCB (c2 zUE @zQX);show W CC 0 13 (zA 180) _ ⟨[(0,_),(1,_)],[]⟩ _)
 (repeat' first|refine gA ?_|refine gT ?_ ?_<;>intro hv|fail)
 all_goals refine aJ ?_<;>exact⟨(_,_),⟨rfl,rfl⟩,by first|exact zVs _ _ _|(simp only[R64];decide)⟩
noncomputable def zJv(a b:Int):Int×Int:=(zGt a b).choose
def zSg(a b:Int):Om CC 180 [.t (.int .i64 a),.t (.int .i64 b)] []=some (.val (.tup [.t (.int .i64 (zJv a b).1),.t (.int .i64 (zJv a b).2)]),[]):=(zGt a b).choose_spec.1
def zUP(a b:Int):R64 (zJv a b).1:=(zGt a b).choose_spec.2
def wC:R64 0:=by simp only[R64];decide
def zXI:R64 1:=by simp only[R64];decide
def VOK(v:Val):Prop:=R64 v.n∧v.s.length<4294967281
def yZ{n:Int}(k:Int)(h:R64 n):VOK ⟨k,n,[]⟩:=⟨h,by simp⟩
def Zero:Val:=⟨0,0,[]⟩
def yX:VOK Zero:=yZ 0 wC
def zMr(a:Int):∃x:Bool,Om CC 244 [.t (.int .u64 a)] []=some (.val (.t (.bool x)),[])∧(True):=by
 refine zJ zZ0 rfl ?_
 (have F_:=c2 jI yFS;show W CC 0 6 (zA 244) _ ⟨[(0,_)],[]⟩ _)
 (refine gA ?_)
 all_goals refine aJ ?_<;>exact⟨_,⟨rfl,rfl⟩,by trivial⟩
noncomputable def yDR(a:Int):Bool:=(zMr a).choose
def zUO(a:Int):Om CC 244 [.t (.int .u64 a)] []=some (.val (.t (.bool (yDR a))),[]):=(zMr a).choose_spec.1
def zMx(a:Int)(b:Int):∃x:Int,Om CC 212 [.t (.int .u64 a),.t (.int .u64 b)] []=some (.val (.t (.int .i64 x)),[])∧(True):=by
 refine zJ zZZ rfl ?_
 (have F_:=c3 jI yBU (c2 yDD @zUO);show W CC 0 20 (zA 212) _ ⟨[(0,_),(1,_)],[]⟩ _)
 (repeat' first|refine gA ?_|refine gT ?_ ?_<;>intro hv|fail)
 all_goals refine aJ ?_<;>exact⟨_,⟨rfl,rfl⟩,by trivial⟩
noncomputable def yFQ(a:Int)(b:Int):Int:=(zMx a b).choose
def zUF(a:Int)(b:Int):Om CC 212 [.t (.int .u64 a),.t (.int .u64 b)] []=some (.val (.t (.int .i64 (yFQ a b))),[]):=(zMx a b).choose_spec.1
def zL4(a:Int):∃x:Bool,Om CC 253 [.t (.int .i64 a)] []=some (.val (.t (.bool x)),[])∧(True):=by
 refine zJ zZl rfl ?_
 (have F_:=c2 zF yGX;show W CC 0 6 (zA 253) _ ⟨[(0,_)],[]⟩ _)
 (refine gA ?_)
 all_goals refine aJ ?_<;>exact⟨_,⟨rfl,rfl⟩,by trivial⟩
noncomputable def yEt(a:Int):Bool:=(zL4 a).choose
def zSS(a:Int):Om CC 253 [.t (.int .i64 a)] []=some (.val (.t (.bool (yEt a))),[]):=(zL4 a).choose_spec.1
def zLL(a:Int)(b:Int):∃x:Int,Om CC 221 [.t (.int .i64 a),.t (.int .i64 b)] []=some (.val (.t (.int .i64 x)),[])∧(True):=by
 refine zJ yAI rfl ?_
 (have F_:=c3 zF yHj (c2 yFK @zSS);show W CC 0 20 (zA 221) _ ⟨[(0,_),(1,_)],[]⟩ _)
 (repeat' first|refine gA ?_|refine gT ?_ ?_<;>intro hv|fail)
 all_goals refine aJ ?_<;>exact⟨_,⟨rfl,rfl⟩,by trivial⟩
noncomputable def yFE(a:Int)(b:Int):Int:=(zLL a b).choose
def zN1(a:Int)(b:Int):Om CC 221 [.t (.int .i64 a),.t (.int .i64 b)] []=some (.val (.t (.int .i64 (yFE a b))),[]):=(zLL a b).choose_spec.1
def zM8(a:Int):∃x:Bool,Om CC 278 [.t (.int .u8 a)] []=some (.val (.t (.bool x)),[])∧(True):=by
 refine zJ yAY rfl ?_
 (have F_:=c2 zE yGU;show W CC 0 6 (zA 278) _ ⟨[(0,_)],[]⟩ _)
 (refine gA ?_)
 all_goals refine aJ ?_<;>exact⟨_,⟨rfl,rfl⟩,by trivial⟩
noncomputable def yHV(a:Int):Bool:=(zM8 a).choose
def zXw(a:Int):Om CC 278 [.t (.int .u8 a)] []=some (.val (.t (.bool (yHV a))),[]):=(zM8 a).choose_spec.1
def zNA(a:Int)(b:Int):∃x:Int,Om CC 245 [.t (.int .u8 a),.t (.int .u8 b)] []=some (.val (.t (.int .i64 x)),[])∧(True):=by
 refine zJ yBd rfl ?_
 (have F_:=c3 zE yDG (c2 yCv @zXw);show W CC 0 20 (zA 245) _ ⟨[(0,_),(1,_)],[]⟩ _)
 (repeat' first|refine gA ?_|refine gT ?_ ?_<;>intro hv|fail)
 all_goals refine aJ ?_<;>exact⟨_,⟨rfl,rfl⟩,by trivial⟩
noncomputable def yIV(a:Int)(b:Int):Int:=(zNA a b).choose
def zWS(a:Int)(b:Int):Om CC 245 [.t (.int .u8 a),.t (.int .u8 b)] []=some (.val (.t (.int .i64 (yIV a b))),[]):=(zNA a b).choose_spec.1
def zMq(a:List Nat):∃x:Bool,Om CC 279 [.t (.str a)] []=some (.val (.t (.bool x)),[])∧(True):=by
 refine zJ zZY rfl ?_
 (have F_:=c2 zC yCM;show W CC 0 6 (zA 279) _ ⟨[(0,_)],[]⟩ _)
 (refine gA ?_)
 all_goals refine aJ ?_<;>exact⟨_,⟨rfl,rfl⟩,by trivial⟩
noncomputable def yGp(a:List Nat):Bool:=(zMq a).choose
def zVp(a:List Nat):Om CC 279 [.t (.str a)] []=some (.val (.t (.bool (yGp a))),[]):=(zMq a).choose_spec.1
def zMm(a:List Nat)(b:List Nat):∃x:Int,Om CC 246 [.t (.str a),.t (.str b)] []=some (.val (.t (.int .i64 x)),[])∧(True):=by
 refine zJ zY4 rfl ?_
 (have F_:=c3 zC yDv (c2 yDp @zVp);show W CC 0 20 (zA 246) _ ⟨[(0,_),(1,_)],[]⟩ _)
 (repeat' first|refine gA ?_|refine gT ?_ ?_<;>intro hv|fail)
 all_goals refine aJ ?_<;>exact⟨_,⟨rfl,rfl⟩,by trivial⟩
noncomputable def yDz(a:List Nat)(b:List Nat):Int:=(zMm a b).choose
def zTl(a:List Nat)(b:List Nat):Om CC 246 [.t (.str a),.t (.str b)] []=some (.val (.t (.int .i64 (yDz a b))),[]):=(zMm a b).choose_spec.1
def zNq(l:List Int)(nl cl:Bool)(hl:l.length<9223372036854775808):∃x:Int,Om CC 211 [.t (.sl nl cl (l.map intC))] []=some (.val (.t (.int .i64 x)),[])∧True:=by
 refine zJ yAm rfl ?_
 (have F_:=c3 zG zM yDl;show W CC 0 18 (zA 211) _ ⟨[(0,_)],[]⟩ _)
 (refine gA ?_)
 refine yE (α:=Nat) (fun i=>⟨[(3,.t (.int .i64 0)),(6,.t (.sl nl cl (l.map intC))),(7,.t (.int .i64 l.length)),(8,.t (.int .i64 i))],[]⟩) (fun i=>l.length - i) (fun i=>i≤l.length) 0 (by kernel_rfl) (Nat.zero_le _) ?_;intro i hi
 by_cases hj:i<l.length
 ·have hw:=wI64 i (by omega);have he:l[i]?=some l[i]:=List.getElem?_eq_getElem hj;have hd:decide ((i:Int)<l.length)=true:=by simpa using hj
  (repeat' first|refine gA ?_|refine gT ?_ ?_<;>intro hv|fail)
  all_goals first
   |((refine aJ ?_);exact⟨_,⟨rfl,rfl⟩,trivial⟩)
   |exact zD (i+1) (by omega) (by omega) (by kernel_rfl)
 have hd:decide ((i:Int)<l.length)=false:=by simpa using hj
 (refine gA ?_)
 (refine aJ ?_)
 exact⟨_,⟨rfl,rfl⟩,trivial⟩
def zVe(a b c:Int):∃x:Int,Om CC 211 [.t (.sl false false [[.int .i64 a],[.int .i64 b],[.int .i64 c]])] []=some (.val (.t (.int .i64 x)),[]):=by
 obtain⟨x,h,_⟩:=zNq [a,b,c] false false (by simp);exact⟨x,h⟩
noncomputable def Or3(a b c:Int):Int:=(zVe a b c).choose
def yCK(a b c:Int):Om CC 211 [.t (.sl false false [[.int .i64 a],[.int .i64 b],[.int .i64 c]])] []=some (.val (.t (.int .i64 (Or3 a b c))),[]):=(zVe a b c).choose_spec
def zU3(a b:Int):∃x:Int,Om CC 211 [.t (.sl false false [[.int .i64 a],[.int .i64 b]])] []=some (.val (.t (.int .i64 x)),[]):=by
 obtain⟨x,h,_⟩:=zNq [a,b] false false (by simp);exact⟨x,h⟩
noncomputable def Or2(a b:Int):Int:=(zU3 a b).choose
def yCN(a b:Int):Om CC 211 [.t (.sl false false [[.int .i64 a],[.int .i64 b]])] []=some (.val (.t (.int .i64 (Or2 a b))),[]):=(zU3 a b).choose_spec
def zNC(v:Val):∃x:Bool,Om CC 209 [.t (.agg [.int .u8 v.k,.int .i64 v.n,.str v.s])] []=some (.val (.t (.bool x)),[])∧(True):=by
 refine zJ zZc rfl ?_
 (have F_:=c5 zF zE zC zB yFi;show W CC 0 11 (zA 209) _ ⟨[(0,_)],[]⟩ _)
 (repeat' first|refine gA ?_|refine gT ?_ ?_<;>intro hv|fail)
 all_goals refine aJ ?_<;>exact⟨_,⟨rfl,rfl⟩,by trivial⟩
noncomputable def yIy(v:Val):Bool:=(zNC v).choose
def zJ9(v:Val):Om CC 209 [.t (.agg [.int .u8 v.k,.int .i64 v.n,.str v.s])] []=some (.val (.t (.bool (yIy v))),[]):=(zNC v).choose_spec.1
def xaU:=c5 zF zP zE zC (c2 zB zSw)
def zGV(b:Bool):∃x:Val,Om CC 87 [.t (.bool b)] []=some (.val (.t (.agg [.int .u8 x.k,.int .i64 x.n,.str x.s])),[])∧(VOK x):=by
 refine zJ zOH rfl ?_
 (have F_:=xaU;show W CC 0 6 (zA 87) _ ⟨[(0,_)],[]⟩ _)
 (repeat' first|refine gA ?_|refine gT ?_ ?_<;>intro hv|fail)
 all_goals refine aJ ?_<;>exact⟨⟨_,_,_⟩,⟨rfl,rfl⟩,by first|exact yZ _ zXI|exact yZ _ wC⟩
noncomputable def uF(b:Bool):Val:=(zGV b).choose
def qD(b:Bool):Om CC 87 [.t (.bool b)] []=some (.val (.t (.agg [.int .u8 (uF b).k,.int .i64 (uF b).n,.str (uF b).s])),[]):=(zGV b).choose_spec.1
def zCz(b:Bool):VOK (uF b):=(zGV b).choose_spec.2
def xaV:=c5 zF zP zE zC (c3 zB zYd (c2 zEa @qD))
def zKu(v:Val):∃x:Val,Om CC 88 [.t (.agg [.int .u8 v.k,.int .i64 v.n,.str v.s])] []=some (.val (.t (.agg [.int .u8 x.k,.int .i64 x.n,.str x.s])),[])∧(VOK x):=by
 refine zJ zTR rfl ?_
 (have F_:=xaV;show W CC 0 11 (zA 88) _ ⟨[(0,_)],[]⟩ _)
 (repeat' first|refine gA ?_|refine gT ?_ ?_<;>intro hv|fail)
 all_goals refine aJ ?_<;>exact⟨⟨_,_,_⟩,⟨rfl,rfl⟩,by first|exact yX|exact zCz _⟩
noncomputable def NotV(v:Val):Val:=(zKu v).choose
def zGI(v:Val):Om CC 88 [.t (.agg [.int .u8 v.k,.int .i64 v.n,.str v.s])] []=some (.val (.t (.agg [.int .u8 (NotV v).k,.int .i64 (NotV v).n,.str (NotV v).s])),[]):=(zKu v).choose_spec.1
def zGT(v:Val):VOK (NotV v):=(zKu v).choose_spec.2
def zLU(v:Val):∃x:Bool×Int×Int,Om CC 210 [.t (.agg [.int .u8 v.k,.int .i64 v.n,.str v.s])] []=some (.val (.tup [.t (.bool x.1),.t (.int .u64 x.2.1),.t (.int .u64 x.2.2)]),[])∧(True):=by
 refine zJ yAv rfl ?_
 (have F_:=c5 zF zE zC zB (c5 jI yBY zIL @zFE @zJ9);show W CC 0 29 (zA 210) _ ⟨[(0,_)],[]⟩ _)
 (repeat' first|refine gA ?_|refine gT ?_ ?_<;>intro hv|fail)
 all_goals refine aJ ?_<;>exact⟨(_,_,_),⟨rfl,rfl⟩,by trivial⟩
noncomputable def zPt(v:Val):Bool×Int×Int:=(zLU v).choose
def zTh(v:Val):Om CC 210 [.t (.agg [.int .u8 v.k,.int .i64 v.n,.str v.s])] []=some (.val (.tup [.t (.bool (zPt v).1),.t (.int .u64 (zPt v).2.1),.t (.int .u64 (zPt v).2.2)]),[]):=(zLU v).choose_spec.1
def zAW(k n:Int)(s:List Nat)(k' n':Int)(s':List Nat):binop Tryz.prog .eql 23 (.t (.agg [.int .u8 k,.int .i64 n,.str s])) (.t (.agg [.int .u8 k',.int .i64 n',.str s'])) =
  some (.t (.bool (decide ((⟨k,n,s⟩:Val)=⟨k',n',s'⟩)))):=by
 have h:=zSW 98 ⟨k,n,s⟩ ⟨k',n',s'⟩;simp only[Val.c] at h;rw[zQW _ _ _ _ zUS,h];rfl
def uP{α:Type}(a:α)(l:List α):idx (a::l) 0=some a:=rfl
def zIj(r:Int):∃x:Bool,Om CC 243 [.t (.int .i32 r)] []=some (.val (.t (.bool x)),[])∧(True):=by
 refine zJ zQr rfl ?_
 (have F_:=c2 zHg zPU;show W CC 0 17 (zA 243) _ ⟨[(0,_)],[]⟩ _)
 (repeat' first|refine gA ?_|refine gT ?_ ?_<;>intro hv|fail)
 all_goals refine aJ ?_<;>exact⟨_,⟨rfl,rfl⟩,by trivial⟩
noncomputable def zPc(r:Int):Bool:=(zIj r).choose
def zQl(r:Int):Om CC 243 [.t (.int .i32 r)] []=some (.val (.t (.bool (zPc r))),[]):=(zIj r).choose_spec.1
def zIg(r:Int):∃x:Bool,Om CC 242 [.t (.int .i32 r)] []=some (.val (.t (.bool x)),[])∧(True):=by
 refine zJ zZz rfl ?_
 (have F_:=c2 zHg yC8;show W CC 0 9 (zA 242) _ ⟨[(0,_)],[]⟩ _)
 (repeat' first|refine gA ?_|refine gT ?_ ?_<;>intro hv|fail)
 all_goals refine aJ ?_<;>exact⟨_,⟨rfl,rfl⟩,by trivial⟩
noncomputable def zPz(r:Int):Bool:=(zIg r).choose
def zQn(r:Int):Om CC 242 [.t (.int .i32 r)] []=some (.val (.t (.bool (zPz r))),[]):=(zIg r).choose_spec.1
def yAz{s:List Nat}{pos:Nat}(h:pos<s.length):s.length - (pos+(Utf8.decode ⟨(s.map UInt8.ofNat).toArray⟩ pos).2)<s.length - pos:=by
 have:=Lib.decode_width_pos ⟨(s.map UInt8.ofNat).toArray⟩ pos (by show pos<(s.map UInt8.ofNat).toArray.size;simpa using h);omega
def xaW:=c5 zP zC zHg kZ zT8
def zEG (f:Nat) (hb:yY Tryz.prog f=true) (hR:∀x,CC.prim f x=none) (F:Int→Bool) (hf:∀r:Int,Om CC f [.t (.int .i32 r)] []=some (.val (.t (.bool (F r))),[])) (s:List Nat) (tr:Bool) :
  ∃x:Int,Om CC 285 [.t (.str s),.t (.fn f),.t (.bool tr)] []=some (.val (.t (.int .i64 x)),[])∧True:=by
 refine zJ zQq rfl ?_
 (have F_:=xaW;show W CC 0 21 (zA 285) _ ⟨[(0,_),(1,_),(2,_)],[]⟩ _)
 (have x0_:=@zGz.eq_1;(refine gA ?_);all_goals clear x0_)
 refine yE (α:=Nat) (fun i=>⟨[(1,.t (.fn f)),(2,.t (.bool tr)),(10,.box 0 0)],[.siter s i]⟩) (fun i=>s.length - i) (fun i=>True) 0 (by kernel_rfl) trivial ?_;intro i _
 by_cases hj:i<s.length
 ·have hh:=yAz hj
  (have x0_:=@zE8.eq_1;(repeat' first|refine gA ?_|refine gT ?_ ?_<;>intro hv|fail);all_goals clear x0_)
  all_goals first
   |((refine aJ ?_);exact⟨_,⟨rfl,rfl⟩,trivial⟩)
   |exact zD _ hh trivial (by kernel_rfl)
 (have x0_:=@zE8.eq_1;(refine gA ?_);all_goals clear x0_)
 (refine aJ ?_)
 exact⟨_,⟨rfl,rfl⟩,trivial⟩
def zPA(s:List Nat):∃x:Int,Om CC 285 [.t (.str s),.t (.fn 243),.t (.bool true)] []=some (.val (.t (.int .i64 x)),[])∧True :=
 zEG _ zTO (fun x=>zX _ x (by decide)) zPc zQl s true
noncomputable def zVO(s:List Nat):Int:=(zPA s).choose
def zP6(s:List Nat):Om CC 285 [.t (.str s),.t (.fn 243),.t (.bool true)] []=some (.val (.t (.int .i64 (zVO s))),[]):=(zPA s).choose_spec.1
def zId(s:List Nat):∃x:Int,Om CC 263 [.t (.str s),.t (.fn 243)] []=some (.val (.t (.int .i64 x)),[])∧(True):=by
 refine zJ zJG rfl ?_
 (have F_:=c5 zP zC kZ zMy (c2 zLK @zP6);show W CC 0 8 (zA 263) _ ⟨[(0,_),(1,_)],[]⟩ _)
 (refine gA ?_)
 all_goals refine aJ ?_<;>exact⟨_,⟨rfl,rfl⟩,by trivial⟩
noncomputable def zW6(s:List Nat):Int:=(zId s).choose
def zP3(s:List Nat):Om CC 263 [.t (.str s),.t (.fn 243)] []=some (.val (.t (.int .i64 (zW6 s))),[]):=(zId s).choose_spec.1
def zHT(s:List Nat):∃x:Bool,Om CC 234 [.t (.str s),.t (.fn 243)] []=some (.val (.t (.bool x)),[])∧(True):=by
 refine zJ zJn rfl ?_
 (have F_:=c5 zG zC kZ zLP (c2 zLR @zP3);show W CC 0 9 (zA 234) _ ⟨[(0,_),(1,_)],[]⟩ _)
 (refine gA ?_)
 all_goals refine aJ ?_<;>exact⟨_,⟨rfl,rfl⟩,by trivial⟩
noncomputable def zV8(s:List Nat):Bool:=(zHT s).choose
def zPY(s:List Nat):Om CC 234 [.t (.str s),.t (.fn 243)] []=some (.val (.t (.bool (zV8 s))),[]):=(zHT s).choose_spec.1
def zOK(s:List Nat):∃x:Int,Om CC 285 [.t (.str s),.t (.fn 242),.t (.bool true)] []=some (.val (.t (.int .i64 x)),[])∧True :=
 zEG _ yEH (fun x=>zX _ x (by decide)) zPz zQn s true
noncomputable def zTx(s:List Nat):Int:=(zOK s).choose
def zP4(s:List Nat):Om CC 285 [.t (.str s),.t (.fn 242),.t (.bool true)] []=some (.val (.t (.int .i64 (zTx s))),[]):=(zOK s).choose_spec.1
def zIS(s:List Nat):∃x:Int,Om CC 263 [.t (.str s),.t (.fn 242)] []=some (.val (.t (.int .i64 x)),[])∧(True):=by
 refine zJ zJG rfl ?_
 (have F_:=c5 zP zC kZ zMy (c2 zLK @zP4);show W CC 0 8 (zA 263) _ ⟨[(0,_),(1,_)],[]⟩ _)
 (refine gA ?_)
 all_goals refine aJ ?_<;>exact⟨_,⟨rfl,rfl⟩,by trivial⟩
noncomputable def zW1(s:List Nat):Int:=(zIS s).choose
def zQc(s:List Nat):Om CC 263 [.t (.str s),.t (.fn 242)] []=some (.val (.t (.int .i64 (zW1 s))),[]):=(zIS s).choose_spec.1
def zIp(s:List Nat):∃x:Bool,Om CC 234 [.t (.str s),.t (.fn 242)] []=some (.val (.t (.bool x)),[])∧(True):=by
 refine zJ zJn rfl ?_
 (have F_:=c5 zG zC kZ zLP (c2 zLR @zQc);show W CC 0 9 (zA 234) _ ⟨[(0,_),(1,_)],[]⟩ _)
 (refine gA ?_)
 all_goals refine aJ ?_<;>exact⟨_,⟨rfl,rfl⟩,by trivial⟩
noncomputable def zW3(s:List Nat):Bool:=(zIp s).choose
def zP2(s:List Nat):Om CC 234 [.t (.str s),.t (.fn 242)] []=some (.val (.t (.bool (zW3 s))),[]):=(zIp s).choose_spec.1
def zLi(s:List Nat):∃x:Bool,Om CC 208 [.t (.str s)] []=some (.val (.t (.bool x)),[])∧True:=by
 refine zJ zRp rfl ?_
 (have F_:=c5 zG zP zE zC (c5 kZ zUb zIm @zPY @uP);show W CC 0 23 (zA 208) _ ⟨[(0,_)],[]⟩ _)
 cases s with
 |nil =>
  (have x0_:=@beqL.eq_1;have x1_:=@beqL.eq_2;have x2_:=@beqL.eq_3;(refine gA ?_);all_goals clear x0_ x1_ x2_)
  all_goals refine aJ ?_<;>exact⟨_,⟨rfl,rfl⟩,trivial⟩
 |cons a l =>
  (have x0_:=@Ab.index.eq_1;have x1_:=@beqL.eq_1;have x2_:=@beqL.eq_2;have x3_:=@beqL.eq_3;(repeat' first|refine gA ?_|refine gT ?_ ?_<;>intro hv|fail);all_goals clear x0_ x1_ x2_ x3_)
  all_goals refine aJ ?_<;>exact⟨_,⟨rfl,rfl⟩,trivial⟩
noncomputable def yGY(s:List Nat):Bool:=(zLi s).choose
def zTm(s:List Nat):Om CC 208 [.t (.str s)] []=some (.val (.t (.bool (yGY s))),[]):=(zLi s).choose_spec.1
def zL8(s:List Nat):∃x:Bool,Om CC 207 [.t (.str s)] []=some (.val (.t (.bool x)),[])∧(True):=by
 refine zJ zYL rfl ?_
 (have F_:=c5 zG zP zC kZ (c3 yCC zIm @zP2);show W CC 0 11 (zA 207) _ ⟨[(0,_)],[]⟩ _)
 (repeat' first|refine gA ?_|refine gT ?_ ?_<;>intro hv|fail)
 all_goals refine aJ ?_<;>exact⟨_,⟨rfl,rfl⟩,by trivial⟩
noncomputable def yDo(s:List Nat):Bool:=(zL8 s).choose
def zSK(s:List Nat):Om CC 207 [.t (.str s)] []=some (.val (.t (.bool (yDo s))),[]):=(zL8 s).choose_spec.1
def zOE(v:Val):∃x:Bool,Om CC 163 [.t (.agg [.int .u8 v.k,.int .i64 v.n,.str v.s])] []=some (.val (.t (.bool x)),[])∧(True):=by
 refine zJ zQp rfl ?_
 (have F_:=c5 zF zE zC zB (c5 zVm yCZ zUm @zSK (c2 @zTm @zAW));show W CC 0 51 (zA 163) _ ⟨[(0,_)],[]⟩ _)
 (repeat' first|refine gA ?_|refine gT ?_ ?_<;>intro hv|fail)
 all_goals refine aJ ?_<;>exact⟨_,⟨rfl,rfl⟩,by trivial⟩
noncomputable def MayV(v:Val):Bool:=(zOE v).choose
def zRl(v:Val):Om CC 163 [.t (.agg [.int .u8 v.k,.int .i64 v.n,.str v.s])] []=some (.val (.t (.bool (MayV v))),[]):=(zOE v).choose_spec.1
def zLN(v:Val)(w:Val):∃x:Int,Om CC 213 [.t (.agg [.int .u8 v.k,.int .i64 v.n,.str v.s]),.t (.agg [.int .u8 w.k,.int .i64 w.n,.str w.s])] []=some (.val (.t (.int .i64 x)),[])∧(True):=by
 refine zJ zZx rfl ?_
 (have F_:=c5 zF zG zE zC (c5 zB zM yEe yG3 (c5 zTo yBX zVS @zWS (c3 @zN1 @zTl @yCK)));show W CC 0 22 (zA 213) _ ⟨[(0,_),(1,_)],[]⟩ _)
 (refine gA ?_)
 all_goals refine aJ ?_<;>exact⟨_,⟨rfl,rfl⟩,by trivial⟩
noncomputable def yCn(v:Val)(w:Val):Int:=(zLN v w).choose
def zUx(v:Val)(w:Val):Om CC 213 [.t (.agg [.int .u8 v.k,.int .i64 v.n,.str v.s]),.t (.agg [.int .u8 w.k,.int .i64 w.n,.str w.s])] []=some (.val (.t (.int .i64 (yCn v w))),[]):=(zLN v w).choose_spec.1
def zIM(v:Val)(w:Val):∃x:Int×Bool,Om CC 166 [.t (.agg [.int .u8 v.k,.int .i64 v.n,.str v.s]),.t (.agg [.int .u8 w.k,.int .i64 w.n,.str w.s])] []=some (.val (.tup [.t (.int .i64 x.1),.t (.bool x.2)]),[])∧(True):=by
 refine zJ yAM rfl ?_
 (have F_:=c5 zF zG zP zE (c5 zC zB zM jI (c5 yB5 zVD yGL yDr (c5 zVS yDF @zJ9 @zTh (c3 @zUF @yCN @zUx))));show W CC 0 65 (zA 166) _ ⟨[(0,_),(1,_)],[]⟩ _)
 (repeat' first|refine gA ?_|refine gT ?_ ?_<;>intro hv|fail)
 all_goals refine aJ ?_<;>exact⟨(_,_),⟨rfl,rfl⟩,by trivial⟩
noncomputable def zPE(v:Val)(w:Val):Int×Bool:=(zIM v w).choose
def zJO(v:Val)(w:Val):Om CC 166 [.t (.agg [.int .u8 v.k,.int .i64 v.n,.str v.s]),.t (.agg [.int .u8 w.k,.int .i64 w.n,.str w.s])] []=some (.val (.tup [.t (.int .i64 (zPE v w).1),.t (.bool (zPE v w).2)]),[]):=(zIM v w).choose_spec.1
end Go.Ab
